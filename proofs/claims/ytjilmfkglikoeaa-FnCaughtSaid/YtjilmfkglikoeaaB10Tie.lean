import Derived.Test.YtjilmfkglikoeaaB10Tb
import Derived.Test.YtjilmfkglikoeaaEngE
import Derived.Test.YtjilmfkglikoeaaLay
import Derived.KernelRfl
/- Each function's code computes what the plain function computes. -/
set_option linter.unusedSimpArgs false
set_option linter.deprecated false
set_option linter.unusedSectionVars false
set_option linter.unusedVariables false
set_option maxRecDepth 100000
open Go Go.Proofs
noncomputable section
namespace Go.Sm.B10
/-- By recursors, and of a greater height than all of the functions: the kernel takes these apart first. -/
def obind {α β : Type} (o : Option α) (f : α → Option β) : Option β := let _ := @laws_FnCaught; Option.rec (motive := fun _ => Option β) none (fun a => f a) o
theorem obind_some {α β : Type} {o : Option α} {f : α → Option β} {y : β} (h : obind o f = some y) : ∃ a, o = some a ∧ f a = some y := by
  cases o with
  | none => cases h
  | some a => exact ⟨a, rfl, h⟩
def ocons {β : Type} (l : List (A T)) (f : A T → List (A T) → Option β) : Option β := let _ := @laws_FnCaught; List.rec (motive := fun _ => Option β) none (fun a r _ => f a r) l
theorem ocons_some {β : Type} {l : List (A T)} {f : A T → List (A T) → Option β} {y : β} (h : ocons l f = some y) : ∃ a r, l = a :: r ∧ f a r = some y := by
  cases l with
  | nil => cases h
  | cons a r => exact ⟨a, r, rfl, h⟩
def onil {β : Type} (l : List (A T)) (x : Option β) : Option β := let _ := @laws_FnCaught; List.rec (motive := fun _ => Option β) x (fun _ _ _ => none) l
theorem onil_some {β : Type} {l : List (A T)} {x : Option β} {y : β} (h : onil l x = some y) : l = [] ∧ x = some y := by
  cases l with
  | nil => exact ⟨rfl, h⟩
  | cons a r => cases h
def laws_big_dec (res : Res T) : Option Bool := match res.rets, res.outs with
  | [a0], [] => (retV (T := T) 4 a0).bind fun r0 => some (r0)
  | _, _ => none
def laws_big_enc (y : Bool) : Res T := ⟨[vR T 4 y], []⟩
theorem laws_big_de (res : Res T) (y : Bool) (h : laws_big_dec res = some y) : res = laws_big_enc y := by
  obtain ⟨rets, outs⟩ := res
  unfold laws_big_dec at h
  dsimp only at h
  split at h
  · obtain ⟨r0, h0, h⟩ := Option.bind_eq_some_iff.1 h
    cases h
    rw [retV_eq ok h0]
    rfl
  · cases h
def spec_l1New_dec (res : Res T) : Option Sl1Cur := match res.rets, res.outs with
  | [a0], [] => (retP (T := T) 239 a0).bind fun r0 => some (r0)
  | _, _ => none
def spec_l1New_enc (y : Sl1Cur) : Res T := ⟨[.ptr 239 y], []⟩
theorem spec_l1New_de (res : Res T) (y : Sl1Cur) (h : spec_l1New_dec res = some y) : res = spec_l1New_enc y := by
  obtain ⟨rets, outs⟩ := res
  unfold spec_l1New_dec at h
  dsimp only at h
  split at h
  · obtain ⟨r0, h0, h⟩ := Option.bind_eq_some_iff.1 h
    cases h
    rw [retP_eq h0]
    rfl
  · cases h
def spec_l1Byte_dec (res : Res T) : Option (Int × Sl1Cur) := match res.rets, res.outs with
  | [a0], [b0] => (retV (T := T) 3 a0).bind fun r0 => (outV (T := T) 239 b0).bind fun r1 => some (r0, r1)
  | _, _ => none
def spec_l1Byte_enc (y : Int × Sl1Cur) : Res T := ⟨[vR T 3 y.1], [.var 239 y.2]⟩
theorem spec_l1Byte_de (res : Res T) (y : Int × Sl1Cur) (h : spec_l1Byte_dec res = some y) : res = spec_l1Byte_enc y := by
  obtain ⟨rets, outs⟩ := res
  unfold spec_l1Byte_dec at h
  dsimp only at h
  split at h
  · obtain ⟨r0, h0, h⟩ := Option.bind_eq_some_iff.1 h
    obtain ⟨r1, h1, h⟩ := Option.bind_eq_some_iff.1 h
    cases h
    rw [retV_eq ok h0, outV_eq h1]
    rfl
  · cases h
def spec_l1Below_dec (res : Res T) : Option (Int × Sl1Cur) := match res.rets, res.outs with
  | [a0], [b0] => (retV (T := T) 3 a0).bind fun r0 => (outV (T := T) 239 b0).bind fun r1 => some (r0, r1)
  | _, _ => none
def spec_l1Below_enc (y : Int × Sl1Cur) : Res T := ⟨[vR T 3 y.1], [.var 239 y.2]⟩
theorem spec_l1Below_de (res : Res T) (y : Int × Sl1Cur) (h : spec_l1Below_dec res = some y) : res = spec_l1Below_enc y := by
  obtain ⟨rets, outs⟩ := res
  unfold spec_l1Below_dec at h
  dsimp only at h
  split at h
  · obtain ⟨r0, h0, h⟩ := Option.bind_eq_some_iff.1 h
    obtain ⟨r1, h1, h⟩ := Option.bind_eq_some_iff.1 h
    cases h
    rw [retV_eq ok h0, outV_eq h1]
    rfl
  · cases h
def spec_l1Pick_dec (res : Res T) : Option (ByteArray × Sl1Cur) := match res.rets, res.outs with
  | [a0], [b0] => (retV (T := T) 9 a0).bind fun r0 => (outV (T := T) 239 b0).bind fun r1 => some (r0, r1)
  | _, _ => none
def spec_l1Pick_enc (y : ByteArray × Sl1Cur) : Res T := ⟨[vR T 9 y.1], [.var 239 y.2]⟩
theorem spec_l1Pick_de (res : Res T) (y : ByteArray × Sl1Cur) (h : spec_l1Pick_dec res = some y) : res = spec_l1Pick_enc y := by
  obtain ⟨rets, outs⟩ := res
  unfold spec_l1Pick_dec at h
  dsimp only at h
  split at h
  · obtain ⟨r0, h0, h⟩ := Option.bind_eq_some_iff.1 h
    obtain ⟨r1, h1, h⟩ := Option.bind_eq_some_iff.1 h
    cases h
    rw [retV_eq ok h0, outV_eq h1]
    rfl
  · cases h
def spec_l6Draw_dec (res : Res T) : Option (SChart × Sl1Cur) := match res.rets, res.outs with
  | [a0], [b0] => (retV (T := T) 63 a0).bind fun r0 => (outV (T := T) 239 b0).bind fun r1 => some (r0, r1)
  | _, _ => none
def spec_l6Draw_enc (y : SChart × Sl1Cur) : Res T := ⟨[vR T 63 y.1], [.var 239 y.2]⟩
theorem spec_l6Draw_de (res : Res T) (y : SChart × Sl1Cur) (h : spec_l6Draw_dec res = some y) : res = spec_l6Draw_enc y := by
  obtain ⟨rets, outs⟩ := res
  unfold spec_l6Draw_dec at h
  dsimp only at h
  split at h
  · obtain ⟨r0, h0, h⟩ := Option.bind_eq_some_iff.1 h
    obtain ⟨r1, h1, h⟩ := Option.bind_eq_some_iff.1 h
    cases h
    rw [retV_eq ok h0, outV_eq h1]
    rfl
  · cases h
def spec_DrawEditions_dec (res : Res T) : Option (SChart × List SUpdate) := match res.rets, res.outs with
  | [a0, a1], [] => (retV (T := T) 63 a0).bind fun r0 => (retV (T := T) 94 a1).bind fun r1 => some (r0, r1)
  | _, _ => none
def spec_DrawEditions_enc (y : SChart × List SUpdate) : Res T := ⟨[vR T 63 y.1, vR T 94 y.2], []⟩
theorem spec_DrawEditions_de (res : Res T) (y : SChart × List SUpdate) (h : spec_DrawEditions_dec res = some y) : res = spec_DrawEditions_enc y := by
  obtain ⟨rets, outs⟩ := res
  unfold spec_DrawEditions_dec at h
  dsimp only at h
  split at h
  · obtain ⟨r0, h0, h⟩ := Option.bind_eq_some_iff.1 h
    obtain ⟨r1, h1, h⟩ := Option.bind_eq_some_iff.1 h
    cases h
    rw [retV_eq ok h0, retV_eq ok h1]
    rfl
  · cases h
def impl_own_int_dec (res : Res T) : Option (List Int) := match res.rets, res.outs with
  | [a0], [] => (retV (T := T) 55 a0).bind fun r0 => some (r0)
  | _, _ => none
def impl_own_int_enc (y : List Int) : Res T := ⟨[vR T 55 y], []⟩
theorem impl_own_int_de (res : Res T) (y : List Int) (h : impl_own_int_dec res = some y) : res = impl_own_int_enc y := by
  obtain ⟨rets, outs⟩ := res
  unfold impl_own_int_dec at h
  dsimp only at h
  split at h
  · obtain ⟨r0, h0, h⟩ := Option.bind_eq_some_iff.1 h
    cases h
    rw [retV_eq ok h0]
    rfl
  · cases h
def impl_own_impl_Feature_dec (res : Res T) : Option (List SFeature) := match res.rets, res.outs with
  | [a0], [] => (retV (T := T) 61 a0).bind fun r0 => some (r0)
  | _, _ => none
def impl_own_impl_Feature_enc (y : List SFeature) : Res T := ⟨[vR T 61 y], []⟩
theorem impl_own_impl_Feature_de (res : Res T) (y : List SFeature) (h : impl_own_impl_Feature_dec res = some y) : res = impl_own_impl_Feature_enc y := by
  obtain ⟨rets, outs⟩ := res
  unfold impl_own_impl_Feature_dec at h
  dsimp only at h
  split at h
  · obtain ⟨r0, h0, h⟩ := Option.bind_eq_some_iff.1 h
    cases h
    rw [retV_eq ok h0]
    rfl
  · cases h
def impl_Chart_own_dec (res : Res T) : Option SChart := match res.rets, res.outs with
  | [a0], [] => (retV (T := T) 63 a0).bind fun r0 => some (r0)
  | _, _ => none
def impl_Chart_own_enc (y : SChart) : Res T := ⟨[vR T 63 y], []⟩
theorem impl_Chart_own_de (res : Res T) (y : SChart) (h : impl_Chart_own_dec res = some y) : res = impl_Chart_own_enc y := by
  obtain ⟨rets, outs⟩ := res
  unfold impl_Chart_own_dec at h
  dsimp only at h
  split at h
  · obtain ⟨r0, h0, h⟩ := Option.bind_eq_some_iff.1 h
    cases h
    rw [retV_eq ok h0]
    rfl
  · cases h
def impl_in_dec (res : Res T) : Option Bool := match res.rets, res.outs with
  | [a0], [] => (retV (T := T) 4 a0).bind fun r0 => some (r0)
  | _, _ => none
def impl_in_enc (y : Bool) : Res T := ⟨[vR T 4 y], []⟩
theorem impl_in_de (res : Res T) (y : Bool) (h : impl_in_dec res = some y) : res = impl_in_enc y := by
  obtain ⟨rets, outs⟩ := res
  unfold impl_in_dec at h
  dsimp only at h
  split at h
  · obtain ⟨r0, h0, h⟩ := Option.bind_eq_some_iff.1 h
    cases h
    rw [retV_eq ok h0]
    rfl
  · cases h
def impl_all_1_dec (res : Res T) : Option Bool := match res.rets, res.outs with
  | [a0], [] => (retV (T := T) 4 a0).bind fun r0 => some (r0)
  | _, _ => none
def impl_all_1_enc (y : Bool) : Res T := ⟨[vR T 4 y], []⟩
theorem impl_all_1_de (res : Res T) (y : Bool) (h : impl_all_1_dec res = some y) : res = impl_all_1_enc y := by
  obtain ⟨rets, outs⟩ := res
  unfold impl_all_1_dec at h
  dsimp only at h
  split at h
  · obtain ⟨r0, h0, h⟩ := Option.bind_eq_some_iff.1 h
    cases h
    rw [retV_eq ok h0]
    rfl
  · cases h
def slices_IndexFunc_int_int__impl_all_1_dec (res : Res T) : Option Int := match res.rets, res.outs with
  | [a0], [] => (retV (T := T) 3 a0).bind fun r0 => some (r0)
  | _, _ => none
def slices_IndexFunc_int_int__impl_all_1_enc (y : Int) : Res T := ⟨[vR T 3 y], []⟩
theorem slices_IndexFunc_int_int__impl_all_1_de (res : Res T) (y : Int) (h : slices_IndexFunc_int_int__impl_all_1_dec res = some y) : res = slices_IndexFunc_int_int__impl_all_1_enc y := by
  obtain ⟨rets, outs⟩ := res
  unfold slices_IndexFunc_int_int__impl_all_1_dec at h
  dsimp only at h
  split at h
  · obtain ⟨r0, h0, h⟩ := Option.bind_eq_some_iff.1 h
    cases h
    rw [retV_eq ok h0]
    rfl
  · cases h
def slices_ContainsFunc_int_int__impl_all_1_dec (res : Res T) : Option Bool := match res.rets, res.outs with
  | [a0], [] => (retV (T := T) 4 a0).bind fun r0 => some (r0)
  | _, _ => none
def slices_ContainsFunc_int_int__impl_all_1_enc (y : Bool) : Res T := ⟨[vR T 4 y], []⟩
theorem slices_ContainsFunc_int_int__impl_all_1_de (res : Res T) (y : Bool) (h : slices_ContainsFunc_int_int__impl_all_1_dec res = some y) : res = slices_ContainsFunc_int_int__impl_all_1_enc y := by
  obtain ⟨rets, outs⟩ := res
  unfold slices_ContainsFunc_int_int__impl_all_1_dec at h
  dsimp only at h
  split at h
  · obtain ⟨r0, h0, h⟩ := Option.bind_eq_some_iff.1 h
    cases h
    rw [retV_eq ok h0]
    rfl
  · cases h
def impl_all_dec (res : Res T) : Option Bool := match res.rets, res.outs with
  | [a0], [] => (retV (T := T) 4 a0).bind fun r0 => some (r0)
  | _, _ => none
def impl_all_enc (y : Bool) : Res T := ⟨[vR T 4 y], []⟩
theorem impl_all_de (res : Res T) (y : Bool) (h : impl_all_dec res = some y) : res = impl_all_enc y := by
  obtain ⟨rets, outs⟩ := res
  unfold impl_all_dec at h
  dsimp only at h
  split at h
  · obtain ⟨r0, h0, h⟩ := Option.bind_eq_some_iff.1 h
    cases h
    rw [retV_eq ok h0]
    rfl
  · cases h
def impl_Chart_place_dec (res : Res T) : Option Bool := match res.rets, res.outs with
  | [a0], [] => (retV (T := T) 4 a0).bind fun r0 => some (r0)
  | _, _ => none
def impl_Chart_place_enc (y : Bool) : Res T := ⟨[vR T 4 y], []⟩
theorem impl_Chart_place_de (res : Res T) (y : Bool) (h : impl_Chart_place_dec res = some y) : res = impl_Chart_place_enc y := by
  obtain ⟨rets, outs⟩ := res
  unfold impl_Chart_place_dec at h
  dsimp only at h
  split at h
  · obtain ⟨r0, h0, h⟩ := Option.bind_eq_some_iff.1 h
    cases h
    rw [retV_eq ok h0]
    rfl
  · cases h
def impl_Chart_featureOk_dec (res : Res T) : Option Bool := match res.rets, res.outs with
  | [a0], [] => (retV (T := T) 4 a0).bind fun r0 => some (r0)
  | _, _ => none
def impl_Chart_featureOk_enc (y : Bool) : Res T := ⟨[vR T 4 y], []⟩
theorem impl_Chart_featureOk_de (res : Res T) (y : Bool) (h : impl_Chart_featureOk_dec res = some y) : res = impl_Chart_featureOk_enc y := by
  obtain ⟨rets, outs⟩ := res
  unfold impl_Chart_featureOk_dec at h
  dsimp only at h
  split at h
  · obtain ⟨r0, h0, h⟩ := Option.bind_eq_some_iff.1 h
    cases h
    rw [retV_eq ok h0]
    rfl
  · cases h
def impl_ChartOk_dec (res : Res T) : Option Bool := match res.rets, res.outs with
  | [a0], [] => (retV (T := T) 4 a0).bind fun r0 => some (r0)
  | _, _ => none
def impl_ChartOk_enc (y : Bool) : Res T := ⟨[vR T 4 y], []⟩
theorem impl_ChartOk_de (res : Res T) (y : Bool) (h : impl_ChartOk_dec res = some y) : res = impl_ChartOk_enc y := by
  obtain ⟨rets, outs⟩ := res
  unfold impl_ChartOk_dec at h
  dsimp only at h
  split at h
  · obtain ⟨r0, h0, h⟩ := Option.bind_eq_some_iff.1 h
    cases h
    rw [retV_eq ok h0]
    rfl
  · cases h
def impl_Chart_note_1_dec (res : Res T) : Option Bool := match res.rets, res.outs with
  | [a0], [] => (retV (T := T) 4 a0).bind fun r0 => some (r0)
  | _, _ => none
def impl_Chart_note_1_enc (y : Bool) : Res T := ⟨[vR T 4 y], []⟩
theorem impl_Chart_note_1_de (res : Res T) (y : Bool) (h : impl_Chart_note_1_dec res = some y) : res = impl_Chart_note_1_enc y := by
  obtain ⟨rets, outs⟩ := res
  unfold impl_Chart_note_1_dec at h
  dsimp only at h
  split at h
  · obtain ⟨r0, h0, h⟩ := Option.bind_eq_some_iff.1 h
    cases h
    rw [retV_eq ok h0]
    rfl
  · cases h
def slices_IndexFunc_impl_Feature_impl_Feature__impl_Chart_note_1_dec (res : Res T) : Option Int := match res.rets, res.outs with
  | [a0], [] => (retV (T := T) 3 a0).bind fun r0 => some (r0)
  | _, _ => none
def slices_IndexFunc_impl_Feature_impl_Feature__impl_Chart_note_1_enc (y : Int) : Res T := ⟨[vR T 3 y], []⟩
theorem slices_IndexFunc_impl_Feature_impl_Feature__impl_Chart_note_1_de (res : Res T) (y : Int) (h : slices_IndexFunc_impl_Feature_impl_Feature__impl_Chart_note_1_dec res = some y) : res = slices_IndexFunc_impl_Feature_impl_Feature__impl_Chart_note_1_enc y := by
  obtain ⟨rets, outs⟩ := res
  unfold slices_IndexFunc_impl_Feature_impl_Feature__impl_Chart_note_1_dec at h
  dsimp only at h
  split at h
  · obtain ⟨r0, h0, h⟩ := Option.bind_eq_some_iff.1 h
    cases h
    rw [retV_eq ok h0]
    rfl
  · cases h
def impl_Chart_note_2_dec (res : Res T) : Option Int := match res.rets, res.outs with
  | [a0], [] => (retV (T := T) 3 a0).bind fun r0 => some (r0)
  | _, _ => none
def impl_Chart_note_2_enc (y : Int) : Res T := ⟨[vR T 3 y], []⟩
theorem impl_Chart_note_2_de (res : Res T) (y : Int) (h : impl_Chart_note_2_dec res = some y) : res = impl_Chart_note_2_enc y := by
  obtain ⟨rets, outs⟩ := res
  unfold impl_Chart_note_2_dec at h
  dsimp only at h
  split at h
  · obtain ⟨r0, h0, h⟩ := Option.bind_eq_some_iff.1 h
    cases h
    rw [retV_eq ok h0]
    rfl
  · cases h
def slices_SortFunc_impl_Feature_impl_Feature__impl_Chart_note_2_dec (res : Res T) : Option (List SFeature) := match res.rets, res.outs with
  | [], [b0] => (outS (T := T) 181 b0).bind fun r0 => some (r0)
  | _, _ => none
def slices_SortFunc_impl_Feature_impl_Feature__impl_Chart_note_2_enc (y : List SFeature) : Res T := ⟨[], [.sl 181 y]⟩
theorem slices_SortFunc_impl_Feature_impl_Feature__impl_Chart_note_2_de (res : Res T) (y : List SFeature) (h : slices_SortFunc_impl_Feature_impl_Feature__impl_Chart_note_2_dec res = some y) : res = slices_SortFunc_impl_Feature_impl_Feature__impl_Chart_note_2_enc y := by
  obtain ⟨rets, outs⟩ := res
  unfold slices_SortFunc_impl_Feature_impl_Feature__impl_Chart_note_2_dec at h
  dsimp only at h
  split at h
  · obtain ⟨r0, h0, h⟩ := Option.bind_eq_some_iff.1 h
    cases h
    rw [outS_eq h0]
    rfl
  · cases h
def slices_Delete_impl_Feature_impl_Feature_dec (res : Res T) : Option (List SFeature) := match res.rets, res.outs with
  | [a0], [] => (retV (T := T) 61 a0).bind fun r0 => some (r0)
  | _, _ => none
def slices_Delete_impl_Feature_impl_Feature_enc (y : List SFeature) : Res T := ⟨[vR T 61 y], []⟩
theorem slices_Delete_impl_Feature_impl_Feature_de (res : Res T) (y : List SFeature) (h : slices_Delete_impl_Feature_impl_Feature_dec res = some y) : res = slices_Delete_impl_Feature_impl_Feature_enc y := by
  obtain ⟨rets, outs⟩ := res
  unfold slices_Delete_impl_Feature_impl_Feature_dec at h
  dsimp only at h
  split at h
  · obtain ⟨r0, h0, h⟩ := Option.bind_eq_some_iff.1 h
    cases h
    rw [retV_eq ok h0]
    rfl
  · cases h
def impl_depthOk_dec (res : Res T) : Option Bool := match res.rets, res.outs with
  | [a0], [] => (retV (T := T) 4 a0).bind fun r0 => some (r0)
  | _, _ => none
def impl_depthOk_enc (y : Bool) : Res T := ⟨[vR T 4 y], []⟩
theorem impl_depthOk_de (res : Res T) (y : Bool) (h : impl_depthOk_dec res = some y) : res = impl_depthOk_enc y := by
  obtain ⟨rets, outs⟩ := res
  unfold impl_depthOk_dec at h
  dsimp only at h
  split at h
  · obtain ⟨r0, h0, h⟩ := Option.bind_eq_some_iff.1 h
    cases h
    rw [retV_eq ok h0]
    rfl
  · cases h
def impl_Chart_note_dec (res : Res T) : Option (Bool × SChart) := match res.rets, res.outs with
  | [a0], [b0] => (retV (T := T) 4 a0).bind fun r0 => (outV (T := T) 63 b0).bind fun r1 => some (r0, r1)
  | _, _ => none
def impl_Chart_note_enc (y : Bool × SChart) : Res T := ⟨[vR T 4 y.1], [.var 63 y.2]⟩
theorem impl_Chart_note_de (res : Res T) (y : Bool × SChart) (h : impl_Chart_note_dec res = some y) : res = impl_Chart_note_enc y := by
  obtain ⟨rets, outs⟩ := res
  unfold impl_Chart_note_dec at h
  dsimp only at h
  split at h
  · obtain ⟨r0, h0, h⟩ := Option.bind_eq_some_iff.1 h
    obtain ⟨r1, h1, h⟩ := Option.bind_eq_some_iff.1 h
    cases h
    rw [retV_eq ok h0, outV_eq h1]
    rfl
  · cases h
def impl_Apply6_dec (res : Res T) : Option (SChart × Int) := match res.rets, res.outs with
  | [a0, a1], [] => (retV (T := T) 63 a0).bind fun r0 => (retV (T := T) 3 a1).bind fun r1 => some (r0, r1)
  | _, _ => none
def impl_Apply6_enc (y : SChart × Int) : Res T := ⟨[vR T 63 y.1, vR T 3 y.2], []⟩
theorem impl_Apply6_de (res : Res T) (y : SChart × Int) (h : impl_Apply6_dec res = some y) : res = impl_Apply6_enc y := by
  obtain ⟨rets, outs⟩ := res
  unfold impl_Apply6_dec at h
  dsimp only at h
  split at h
  · obtain ⟨r0, h0, h⟩ := Option.bind_eq_some_iff.1 h
    obtain ⟨r1, h1, h⟩ := Option.bind_eq_some_iff.1 h
    cases h
    rw [retV_eq ok h0, retV_eq ok h1]
    rfl
  · cases h
def laws_at_dec (res : Res T) : Option Int := match res.rets, res.outs with
  | [a0], [] => (retV (T := T) 3 a0).bind fun r0 => some (r0)
  | _, _ => none
def laws_at_enc (y : Int) : Res T := ⟨[vR T 3 y], []⟩
theorem laws_at_de (res : Res T) (y : Int) (h : laws_at_dec res = some y) : res = laws_at_enc y := by
  obtain ⟨rets, outs⟩ := res
  unfold laws_at_dec at h
  dsimp only at h
  split at h
  · obtain ⟨r0, h0, h⟩ := Option.bind_eq_some_iff.1 h
    cases h
    rw [retV_eq ok h0]
    rfl
  · cases h
def impl_Catch_dec (res : Res T) : Option (SChart × List Int) := match res.rets, res.outs with
  | [a0, a1], [] => (retV (T := T) 63 a0).bind fun r0 => (retV (T := T) 55 a1).bind fun r1 => some (r0, r1)
  | _, _ => none
def impl_Catch_enc (y : SChart × List Int) : Res T := ⟨[vR T 63 y.1, vR T 55 y.2], []⟩
theorem impl_Catch_de (res : Res T) (y : SChart × List Int) (h : impl_Catch_dec res = some y) : res = impl_Catch_enc y := by
  obtain ⟨rets, outs⟩ := res
  unfold impl_Catch_dec at h
  dsimp only at h
  split at h
  · obtain ⟨r0, h0, h⟩ := Option.bind_eq_some_iff.1 h
    obtain ⟨r1, h1, h⟩ := Option.bind_eq_some_iff.1 h
    cases h
    rw [retV_eq ok h0, retV_eq ok h1]
    rfl
  · cases h
def laws_sameInts_dec (res : Res T) : Option Bool := match res.rets, res.outs with
  | [a0], [] => (retV (T := T) 4 a0).bind fun r0 => some (r0)
  | _, _ => none
def laws_sameInts_enc (y : Bool) : Res T := ⟨[vR T 4 y], []⟩
theorem laws_sameInts_de (res : Res T) (y : Bool) (h : laws_sameInts_dec res = some y) : res = laws_sameInts_enc y := by
  obtain ⟨rets, outs⟩ := res
  unfold laws_sameInts_dec at h
  dsimp only at h
  split at h
  · obtain ⟨r0, h0, h⟩ := Option.bind_eq_some_iff.1 h
    cases h
    rw [retV_eq ok h0]
    rfl
  · cases h
def impl_DepthAt_dec (res : Res T) : Option (Int × Bool) := match res.rets, res.outs with
  | [a0, a1], [] => (retV (T := T) 3 a0).bind fun r0 => (retV (T := T) 4 a1).bind fun r1 => some (r0, r1)
  | _, _ => none
def impl_DepthAt_enc (y : Int × Bool) : Res T := ⟨[vR T 3 y.1, vR T 4 y.2], []⟩
theorem impl_DepthAt_de (res : Res T) (y : Int × Bool) (h : impl_DepthAt_dec res = some y) : res = impl_DepthAt_enc y := by
  obtain ⟨rets, outs⟩ := res
  unfold impl_DepthAt_dec at h
  dsimp only at h
  split at h
  · obtain ⟨r0, h0, h⟩ := Option.bind_eq_some_iff.1 h
    obtain ⟨r1, h1, h⟩ := Option.bind_eq_some_iff.1 h
    cases h
    rw [retV_eq ok h0, retV_eq ok h1]
    rfl
  · cases h
def laws_FnCaught_dec (res : Res T) : Option Bool := match res.rets, res.outs with
  | [a0], [] => (retV (T := T) 4 a0).bind fun r0 => some (r0)
  | _, _ => none
def laws_FnCaught_enc (y : Bool) : Res T := ⟨[vR T 4 y], []⟩
theorem laws_FnCaught_de (res : Res T) (y : Bool) (h : laws_FnCaught_dec res = some y) : res = laws_FnCaught_enc y := by
  obtain ⟨rets, outs⟩ := res
  unfold laws_FnCaught_dec at h
  dsimp only at h
  split at h
  · obtain ⟨r0, h0, h⟩ := Option.bind_eq_some_iff.1 h
    cases h
    rw [retV_eq ok h0]
    rfl
  · cases h
def laws_big_D (n : Nat) (r0 : List (A T)) : Option Bool := ocons r0 fun a0 r1 => onil r1 (obind (argV (T := T) 22 a0) fun code0 => laws_big n code0)
def laws_big_ent (n : Nat) : Ent T := ⟨15, 0, [], Bool, laws_big_D n, laws_big_enc⟩
def spec_l1New_D (n : Nat) (r0 : List (A T)) : Option Sl1Cur := ocons r0 fun a0 r1 => onil r1 (obind (argV (T := T) 22 a0) fun code0 => spec_l1New n code0)
def spec_l1New_ent (n : Nat) : Ent T := ⟨87, 1, [], Sl1Cur, spec_l1New_D n, spec_l1New_enc⟩
def spec_l1Byte_D (n : Nat) (r0 : List (A T)) : Option (Int × Sl1Cur) := ocons r0 fun a0 r1 => onil r1 (obind (argP (T := T) 239 a0) fun c0 => spec_l1Byte n c0)
def spec_l1Byte_ent (n : Nat) : Ent T := ⟨176, 2, [], Int × Sl1Cur, spec_l1Byte_D n, spec_l1Byte_enc⟩
def spec_l1Below_D (n : Nat) (r0 : List (A T)) : Option (Int × Sl1Cur) := ocons r0 fun a0 r1 => ocons r1 fun a1 r2 => onil r2 (obind (argP (T := T) 239 a0) fun c0 => obind (argV (T := T) 3 a1) fun n1 => spec_l1Below n c0 n1)
def spec_l1Below_ent (n : Nat) : Ent T := ⟨89, 3, [], Int × Sl1Cur, spec_l1Below_D n, spec_l1Below_enc⟩
def spec_l1Pick_D (n : Nat) (r0 : List (A T)) : Option (ByteArray × Sl1Cur) := ocons r0 fun a0 r1 => ocons r1 fun a1 r2 => onil r2 (obind (argP (T := T) 239 a0) fun c0 => obind (argV (T := T) 270 a1) fun list1 => spec_l1Pick n c0 list1)
def spec_l1Pick_ent (n : Nat) : Ent T := ⟨211, 4, [], ByteArray × Sl1Cur, spec_l1Pick_D n, spec_l1Pick_enc⟩
def spec_l6Draw_D (n : Nat) (r0 : List (A T)) : Option (SChart × Sl1Cur) := ocons r0 fun a0 r1 => onil r1 (obind (argP (T := T) 239 a0) fun c0 => spec_l6Draw n c0)
def spec_l6Draw_ent (n : Nat) : Ent T := ⟨138, 5, [], SChart × Sl1Cur, spec_l6Draw_D n, spec_l6Draw_enc⟩
def spec_DrawEditions_D (n : Nat) (r0 : List (A T)) : Option (SChart × List SUpdate) := ocons r0 fun a0 r1 => onil r1 (obind (argV (T := T) 22 a0) fun code0 => spec_DrawEditions n code0)
def spec_DrawEditions_ent (n : Nat) : Ent T := ⟨62, 6, [], SChart × List SUpdate, spec_DrawEditions_D n, spec_DrawEditions_enc⟩
def impl_own_int_D (n : Nat) (r0 : List (A T)) : Option (List Int) := ocons r0 fun a0 r1 => onil r1 (obind (argV (T := T) 55 a0) fun l0 => impl_own_int n l0)
def impl_own_int_ent (n : Nat) : Ent T := ⟨104, 7, [], List Int, impl_own_int_D n, impl_own_int_enc⟩
def impl_own_impl_Feature_D (n : Nat) (r0 : List (A T)) : Option (List SFeature) := ocons r0 fun a0 r1 => onil r1 (obind (argV (T := T) 61 a0) fun l0 => impl_own_impl_Feature n l0)
def impl_own_impl_Feature_ent (n : Nat) : Ent T := ⟨203, 8, [], List SFeature, impl_own_impl_Feature_D n, impl_own_impl_Feature_enc⟩
def impl_Chart_own_D (n : Nat) (r0 : List (A T)) : Option SChart := ocons r0 fun a0 r1 => onil r1 (obind (argV (T := T) 63 a0) fun c0 => impl_Chart_own n c0)
def impl_Chart_own_ent (n : Nat) : Ent T := ⟨133, 9, [], SChart, impl_Chart_own_D n, impl_Chart_own_enc⟩
def impl_in_D (n : Nat) (r0 : List (A T)) : Option Bool := ocons r0 fun a0 r1 => ocons r1 fun a1 r2 => ocons r2 fun a2 r3 => onil r3 (obind (argV (T := T) 3 a0) fun n0 => obind (argV (T := T) 3 a1) fun least1 => obind (argV (T := T) 3 a2) fun most2 => impl_in n n0 least1 most2)
def impl_in_ent (n : Nat) : Ent T := ⟨119, 10, [], Bool, impl_in_D n, impl_in_enc⟩
def impl_all_1_D (n : Nat) (r0 : List (A T)) : Option Bool := ocons r0 fun a0 r1 => ocons r1 fun a1 r2 => ocons r2 fun a2 r3 => onil r3 (obind (argV (T := T) 3 a0) fun n0 => obind (argP (T := T) 3 a1) fun a1 => obind (argP (T := T) 3 a2) fun a2 => impl_all_1 n n0 a1 a2)
def impl_all_1_ent (n : Nat) : Ent T := ⟨196, 11, [], Bool, impl_all_1_D n, impl_all_1_enc⟩
def slices_IndexFunc_int_int__impl_all_1_D (n : Nat) (ar : List (A T)) : Option Int := match ar with
  | [a0, .fn _ [k1_0, k1_1]] => obind (argV (T := T) 55 a0) fun s0 => obind (argP (T := T) 3 k1_0) fun f1c0 => obind (argP (T := T) 3 k1_1) fun f1c1 => slices_IndexFunc_int_int__impl_all_1 n s0 f1c0 f1c1
  | _ => none
def slices_IndexFunc_int_int__impl_all_1_ent (n : Nat) : Ent T := ⟨222, 12, [196], Int, slices_IndexFunc_int_int__impl_all_1_D n, slices_IndexFunc_int_int__impl_all_1_enc⟩
def slices_ContainsFunc_int_int__impl_all_1_D (n : Nat) (ar : List (A T)) : Option Bool := match ar with
  | [a0, .fn _ [k1_0, k1_1]] => obind (argV (T := T) 55 a0) fun s0 => obind (argP (T := T) 3 k1_0) fun f1c0 => obind (argP (T := T) 3 k1_1) fun f1c1 => slices_ContainsFunc_int_int__impl_all_1 n s0 f1c0 f1c1
  | _ => none
def slices_ContainsFunc_int_int__impl_all_1_ent (n : Nat) : Ent T := ⟨158, 13, [196], Bool, slices_ContainsFunc_int_int__impl_all_1_D n, slices_ContainsFunc_int_int__impl_all_1_enc⟩
def impl_all_D (n : Nat) (r0 : List (A T)) : Option Bool := ocons r0 fun a0 r1 => ocons r1 fun a1 r2 => ocons r2 fun a2 r3 => onil r3 (obind (argV (T := T) 55 a0) fun l0 => obind (argV (T := T) 3 a1) fun least1 => obind (argV (T := T) 3 a2) fun most2 => impl_all n l0 least1 most2)
def impl_all_ent (n : Nat) : Ent T := ⟨120, 14, [], Bool, impl_all_D n, impl_all_enc⟩
def impl_Chart_place_D (n : Nat) (r0 : List (A T)) : Option Bool := ocons r0 fun a0 r1 => ocons r1 fun a1 r2 => ocons r2 fun a2 r3 => onil r3 (obind (argV (T := T) 63 a0) fun c0 => obind (argV (T := T) 3 a1) fun x1 => obind (argV (T := T) 3 a2) fun y2 => impl_Chart_place n c0 x1 y2)
def impl_Chart_place_ent (n : Nat) : Ent T := ⟨122, 15, [], Bool, impl_Chart_place_D n, impl_Chart_place_enc⟩
def impl_Chart_featureOk_D (n : Nat) (r0 : List (A T)) : Option Bool := ocons r0 fun a0 r1 => ocons r1 fun a1 r2 => onil r2 (obind (argV (T := T) 63 a0) fun c0 => obind (argV (T := T) 181 a1) fun f1 => impl_Chart_featureOk n c0 f1)
def impl_Chart_featureOk_ent (n : Nat) : Ent T := ⟨121, 16, [], Bool, impl_Chart_featureOk_D n, impl_Chart_featureOk_enc⟩
def impl_ChartOk_D (n : Nat) (r0 : List (A T)) : Option Bool := ocons r0 fun a0 r1 => onil r1 (obind (argV (T := T) 63 a0) fun c0 => impl_ChartOk n c0)
def impl_ChartOk_ent (n : Nat) : Ent T := ⟨44, 17, [], Bool, impl_ChartOk_D n, impl_ChartOk_enc⟩
def impl_Chart_note_1_D (n : Nat) (r0 : List (A T)) : Option Bool := ocons r0 fun a0 r1 => ocons r1 fun a1 r2 => onil r2 (obind (argV (T := T) 181 a0) fun f0 => obind (argP (T := T) 196 a1) fun a1 => impl_Chart_note_1 n f0 a1)
def impl_Chart_note_1_ent (n : Nat) : Ent T := ⟨205, 18, [], Bool, impl_Chart_note_1_D n, impl_Chart_note_1_enc⟩
def slices_IndexFunc_impl_Feature_impl_Feature__impl_Chart_note_1_D (n : Nat) (ar : List (A T)) : Option Int := match ar with
  | [a0, .fn _ [k1_0]] => obind (argV (T := T) 61 a0) fun s0 => obind (argP (T := T) 196 k1_0) fun f1c0 => slices_IndexFunc_impl_Feature_impl_Feature__impl_Chart_note_1 n s0 f1c0
  | _ => none
def slices_IndexFunc_impl_Feature_impl_Feature__impl_Chart_note_1_ent (n : Nat) : Ent T := ⟨204, 19, [205], Int, slices_IndexFunc_impl_Feature_impl_Feature__impl_Chart_note_1_D n, slices_IndexFunc_impl_Feature_impl_Feature__impl_Chart_note_1_enc⟩
def impl_Chart_note_2_D (n : Nat) (r0 : List (A T)) : Option Int := ocons r0 fun a0 r1 => ocons r1 fun a1 r2 => onil r2 (obind (argV (T := T) 181 a0) fun a0 => obind (argV (T := T) 181 a1) fun b1 => impl_Chart_note_2 n a0 b1)
def impl_Chart_note_2_ent (n : Nat) : Ent T := ⟨207, 20, [], Int, impl_Chart_note_2_D n, impl_Chart_note_2_enc⟩
def slices_SortFunc_impl_Feature_impl_Feature__impl_Chart_note_2_D (n : Nat) (ar : List (A T)) : Option (List SFeature) := match ar with
  | [a0, .fn _ []] => obind (argV (T := T) 61 a0) fun l0 => slices_SortFunc_impl_Feature_impl_Feature__impl_Chart_note_2 n l0
  | _ => none
def slices_SortFunc_impl_Feature_impl_Feature__impl_Chart_note_2_ent (n : Nat) : Ent T := ⟨206, 21, [207], List SFeature, slices_SortFunc_impl_Feature_impl_Feature__impl_Chart_note_2_D n, slices_SortFunc_impl_Feature_impl_Feature__impl_Chart_note_2_enc⟩
def slices_Delete_impl_Feature_impl_Feature_D (n : Nat) (r0 : List (A T)) : Option (List SFeature) := ocons r0 fun a0 r1 => ocons r1 fun a1 r2 => ocons r2 fun a2 r3 => onil r3 (obind (argV (T := T) 61 a0) fun l0 => obind (argV (T := T) 3 a1) fun i1 => obind (argV (T := T) 3 a2) fun j2 => slices_Delete_impl_Feature_impl_Feature n l0 i1 j2)
def slices_Delete_impl_Feature_impl_Feature_ent (n : Nat) : Ent T := ⟨208, 22, [], List SFeature, slices_Delete_impl_Feature_impl_Feature_D n, slices_Delete_impl_Feature_impl_Feature_enc⟩
def impl_depthOk_D (n : Nat) (r0 : List (A T)) : Option Bool := ocons r0 fun a0 r1 => onil r1 (obind (argV (T := T) 3 a0) fun d0 => impl_depthOk n d0)
def impl_depthOk_ent (n : Nat) : Ent T := ⟨209, 23, [], Bool, impl_depthOk_D n, impl_depthOk_enc⟩
def impl_Chart_note_D (n : Nat) (r0 : List (A T)) : Option (Bool × SChart) := ocons r0 fun a0 r1 => ocons r1 fun a1 r2 => onil r2 (obind (argP (T := T) 63 a0) fun c0 => obind (argV (T := T) 196 a1) fun n1 => impl_Chart_note n c0 n1)
def impl_Chart_note_ent (n : Nat) : Ent T := ⟨134, 24, [], Bool × SChart, impl_Chart_note_D n, impl_Chart_note_enc⟩
def impl_Apply6_D (n : Nat) (r0 : List (A T)) : Option (SChart × Int) := ocons r0 fun a0 r1 => ocons r1 fun a1 r2 => onil r2 (obind (argV (T := T) 63 a0) fun c0 => obind (argV (T := T) 85 a1) fun u1 => impl_Apply6 n c0 u1)
def impl_Apply6_ent (n : Nat) : Ent T := ⟨52, 25, [], SChart × Int, impl_Apply6_D n, impl_Apply6_enc⟩
def laws_at_D (n : Nat) (r0 : List (A T)) : Option Int := ocons r0 fun a0 r1 => ocons r1 fun a1 r2 => onil r2 (obind (argV (T := T) 22 a0) fun code0 => obind (argV (T := T) 3 a1) fun i1 => laws_at n code0 i1)
def laws_at_ent (n : Nat) : Ent T := ⟨17, 26, [], Int, laws_at_D n, laws_at_enc⟩
def impl_Catch_D (n : Nat) (r0 : List (A T)) : Option (SChart × List Int) := ocons r0 fun a0 r1 => ocons r1 fun a1 r2 => onil r2 (obind (argV (T := T) 63 a0) fun c0 => obind (argV (T := T) 94 a1) fun list1 => impl_Catch n c0 list1)
def impl_Catch_ent (n : Nat) : Ent T := ⟨59, 27, [], SChart × List Int, impl_Catch_D n, impl_Catch_enc⟩
def laws_sameInts_D (n : Nat) (r0 : List (A T)) : Option Bool := ocons r0 fun a0 r1 => ocons r1 fun a1 r2 => onil r2 (obind (argV (T := T) 55 a0) fun a0 => obind (argV (T := T) 55 a1) fun b1 => laws_sameInts n a0 b1)
def laws_sameInts_ent (n : Nat) : Ent T := ⟨63, 28, [], Bool, laws_sameInts_D n, laws_sameInts_enc⟩
def impl_DepthAt_D (n : Nat) (r0 : List (A T)) : Option (Int × Bool) := ocons r0 fun a0 r1 => ocons r1 fun a1 r2 => ocons r2 fun a2 r3 => onil r3 (obind (argV (T := T) 63 a0) fun c0 => obind (argV (T := T) 3 a1) fun x1 => obind (argV (T := T) 3 a2) fun y2 => impl_DepthAt n c0 x1 y2)
def impl_DepthAt_ent (n : Nat) : Ent T := ⟨45, 29, [], Int × Bool, impl_DepthAt_D n, impl_DepthAt_enc⟩
def laws_FnCaught_D (n : Nat) (r0 : List (A T)) : Option Bool := ocons r0 fun a0 r1 => onil r1 (obind (argV (T := T) 22 a0) fun code0 => laws_FnCaught n code0)
def laws_FnCaught_ent (n : Nat) : Ent T := ⟨10, 30, [], Bool, laws_FnCaught_D n, laws_FnCaught_enc⟩
def ents (n : Nat) : List (Ent T) := [laws_big_ent n, spec_l1New_ent n, spec_l1Byte_ent n, spec_l1Below_ent n, spec_l1Pick_ent n, spec_l6Draw_ent n, spec_DrawEditions_ent n, impl_own_int_ent n, impl_own_impl_Feature_ent n, impl_Chart_own_ent n, impl_in_ent n, impl_all_1_ent n, slices_IndexFunc_int_int__impl_all_1_ent n, slices_ContainsFunc_int_int__impl_all_1_ent n, impl_all_ent n, impl_Chart_place_ent n, impl_Chart_featureOk_ent n, impl_ChartOk_ent n, impl_Chart_note_1_ent n, slices_IndexFunc_impl_Feature_impl_Feature__impl_Chart_note_1_ent n, impl_Chart_note_2_ent n, slices_SortFunc_impl_Feature_impl_Feature__impl_Chart_note_2_ent n, slices_Delete_impl_Feature_impl_Feature_ent n, impl_depthOk_ent n, impl_Chart_note_ent n, impl_Apply6_ent n, laws_at_ent n, impl_Catch_ent n, laws_sameInts_ent n, impl_DepthAt_ent n, laws_FnCaught_ent n]
abbrev Phi (n i : Nat) {R : Type} (f : Nat) (ar : List (A T)) (K : Res T → Option R) : Option R := PhiE (ents n) i f ar K
theorem mixed : Try.prog.follows .mixedOrders = true := by kernel_rfl
noncomputable def laws_big_code : Code := match Try.f15.body with | some c => c | none => .skip
def laws_big_ann : Ann := fun id => none
def laws_big_Ls (n : Nat) : Nat → Option (LSpec T) := fun id => none
theorem laws_big_tie (n : Nat) (code0 : List Int) : evF (T := T) (Phi n 0) (laws_big_Ls n) laws_big_ann n Try.f15 (sg 15) [vA T 22 code0] laws_big_dec = laws_big n code0 := by kernel_rfl
theorem laws_big_lo (n : Nat) : LoopsOk (T := T) (Phi n 0) (laws_big_Ls n) laws_big_ann n laws_big_code := loopsOk_all (cs := []) (by kernel_rfl) trivial
theorem laws_big_ok (n : Nat) : EntOk Try.prog (ents n) (laws_big_ent n) := by
  intro hs ar y hg h
  replace h : laws_big_D n ar = some y := h
  unfold laws_big_D at h
  replace h := ocons_some h
  obtain ⟨a0, r0, rfl, h⟩ := h
  replace h := onil_some h
  obtain ⟨rfl, h⟩ := h
  obtain ⟨code0, qh0, h⟩ := obind_some h
  rw [argV_eq ok qh0]
  exact call_of (phiE_nat _ _) hs ok mixed Try.func15 (c := laws_big_code) (by kernel_rfl) (laws_big_lo n) (by kernel_rfl) (by kernel_rfl) (by kernel_rfl) laws_big_de ((laws_big_tie n code0).trans h)
noncomputable def spec_l1New_code : Code := match Try.f87.body with | some c => c | none => .skip
def spec_l1New_3_sv : List Sv := [.one (.arr 5), .one (.int .i64), .one (.int .i64)]
def spec_l1New_3_so : List So := []
def spec_l1New_3_emb (c : List Int) (x : Int × Int) : EVs T spec_l1New_3_sv × EOs T spec_l1New_3_so := ((c, x.1, x.2, ()), ())
def spec_l1New_3_prj (y : EVs T spec_l1New_3_sv × EOs T spec_l1New_3_so) : List Int × (Int × Int) := ((y.1.1), (y.1.2.1, y.1.2.2.1))
def spec_l1New_3_b (n : Nat) {R : Type} (K : Ex → Sm.St T → Option R) (c : List Int) (x : Int × Int) (J : (Int × Int) → Option R) : Option R :=
  spec_l1New_L3 n (fun (y1 : Int) => K (.exit 0) (stOf (T := T) [0, 3] [] [.one (.arr 5), .one (.int .i64)] [] (c, y1, ()) ())) (fun z0 z1 => J (z0, z1)) c x.1 x.2
def spec_l1New_3_sp (n : Nat) : LSpec T := mkSpec T ⟨[], [0, 3, 4], []⟩ spec_l1New_3_sv spec_l1New_3_so (List Int) (Int × Int) spec_l1New_3_emb spec_l1New_3_prj (spec_l1New_3_b n)
noncomputable def spec_l1New_3_c : Code := ((loopCodes spec_l1New_code)[0]?).getD .skip
def spec_l1New_ann : Ann := fun id => bif Nat.beq id 3000003 then some ⟨[], [0, 3], []⟩ else none
def spec_l1New_Ls (n : Nat) : Nat → Option (LSpec T) := fun id => bif Nat.beq id 3 then some (spec_l1New_3_sp n) else none
theorem spec_l1New_3_le (n : Nat) : LoopEq (T := T) (Phi n 1) (spec_l1New_Ls n) spec_l1New_ann n spec_l1New_3_c (spec_l1New_3_sp n) := ⟨mkSpec_dec (fun y => rfl), fun c x => by kernel_rfl, fun K J c x => by kernel_rfl⟩
theorem spec_l1New_tie (n : Nat) (code0 : List Int) : evF (T := T) (Phi n 1) (spec_l1New_Ls n) spec_l1New_ann n Try.f87 (sg 87) [vA T 22 code0] spec_l1New_dec = spec_l1New n code0 := by kernel_rfl
theorem spec_l1New_lo (n : Nat) : LoopsOk (T := T) (Phi n 1) (spec_l1New_Ls n) spec_l1New_ann n spec_l1New_code := loopsOk_all (cs := [spec_l1New_3_c]) (by kernel_rfl) ⟨⟨_, by kernel_rfl, spec_l1New_3_le n⟩, trivial⟩
theorem spec_l1New_ok (n : Nat) : EntOk Try.prog (ents n) (spec_l1New_ent n) := by
  intro hs ar y hg h
  replace h : spec_l1New_D n ar = some y := h
  unfold spec_l1New_D at h
  replace h := ocons_some h
  obtain ⟨a0, r0, rfl, h⟩ := h
  replace h := onil_some h
  obtain ⟨rfl, h⟩ := h
  obtain ⟨code0, qh0, h⟩ := obind_some h
  rw [argV_eq ok qh0]
  exact call_of (phiE_nat _ _) hs ok mixed Try.func87 (c := spec_l1New_code) (by kernel_rfl) (spec_l1New_lo n) (by kernel_rfl) (by kernel_rfl) (by kernel_rfl) spec_l1New_de ((spec_l1New_tie n code0).trans h)
noncomputable def spec_l1Byte_code : Code := match Try.f176.body with | some c => c | none => .skip
def spec_l1Byte_ann : Ann := fun id => none
def spec_l1Byte_Ls (n : Nat) : Nat → Option (LSpec T) := fun id => none
theorem spec_l1Byte_tie (n : Nat) (c0 : Sl1Cur) : evF (T := T) (Phi n 2) (spec_l1Byte_Ls n) spec_l1Byte_ann n Try.f176 (sg 176) [.ptr 239 c0] spec_l1Byte_dec = spec_l1Byte n c0 := by kernel_rfl
theorem spec_l1Byte_lo (n : Nat) : LoopsOk (T := T) (Phi n 2) (spec_l1Byte_Ls n) spec_l1Byte_ann n spec_l1Byte_code := loopsOk_all (cs := []) (by kernel_rfl) trivial
theorem spec_l1Byte_ok (n : Nat) : EntOk Try.prog (ents n) (spec_l1Byte_ent n) := by
  intro hs ar y hg h
  replace h : spec_l1Byte_D n ar = some y := h
  unfold spec_l1Byte_D at h
  replace h := ocons_some h
  obtain ⟨a0, r0, rfl, h⟩ := h
  replace h := onil_some h
  obtain ⟨rfl, h⟩ := h
  obtain ⟨c0, qh0, h⟩ := obind_some h
  rw [argP_eq qh0]
  exact call_of (phiE_nat _ _) hs ok mixed Try.func176 (c := spec_l1Byte_code) (by kernel_rfl) (spec_l1Byte_lo n) (by kernel_rfl) (by kernel_rfl) (by kernel_rfl) spec_l1Byte_de ((spec_l1Byte_tie n c0).trans h)
noncomputable def spec_l1Below_code : Code := match Try.f89.body with | some c => c | none => .skip
def spec_l1Below_ann : Ann := fun id => none
def spec_l1Below_Ls (n : Nat) : Nat → Option (LSpec T) := fun id => none
theorem spec_l1Below_tie (n : Nat) (c0 : Sl1Cur) (n1 : Int) : evF (T := T) (Phi n 3) (spec_l1Below_Ls n) spec_l1Below_ann n Try.f89 (sg 89) [.ptr 239 c0, vA T 3 n1] spec_l1Below_dec = spec_l1Below n c0 n1 := by kernel_rfl
theorem spec_l1Below_lo (n : Nat) : LoopsOk (T := T) (Phi n 3) (spec_l1Below_Ls n) spec_l1Below_ann n spec_l1Below_code := loopsOk_all (cs := []) (by kernel_rfl) trivial
theorem spec_l1Below_ok (n : Nat) : EntOk Try.prog (ents n) (spec_l1Below_ent n) := by
  intro hs ar y hg h
  replace h : spec_l1Below_D n ar = some y := h
  unfold spec_l1Below_D at h
  replace h := ocons_some h
  obtain ⟨a0, r0, rfl, h⟩ := h
  replace h := ocons_some h
  obtain ⟨a1, r1, rfl, h⟩ := h
  replace h := onil_some h
  obtain ⟨rfl, h⟩ := h
  obtain ⟨c0, qh0, h⟩ := obind_some h
  obtain ⟨n1, qh1, h⟩ := obind_some h
  rw [argP_eq qh0, argV_eq ok qh1]
  exact call_of (phiE_nat _ _) hs ok mixed Try.func89 (c := spec_l1Below_code) (by kernel_rfl) (spec_l1Below_lo n) (by kernel_rfl) (by kernel_rfl) (by kernel_rfl) spec_l1Below_de ((spec_l1Below_tie n c0 n1).trans h)
noncomputable def spec_l1Pick_code : Code := match Try.f211.body with | some c => c | none => .skip
def spec_l1Pick_ann : Ann := fun id => none
def spec_l1Pick_Ls (n : Nat) : Nat → Option (LSpec T) := fun id => none
theorem spec_l1Pick_tie (n : Nat) (c0 : Sl1Cur) (list1 : List ByteArray) : evF (T := T) (Phi n 4) (spec_l1Pick_Ls n) spec_l1Pick_ann n Try.f211 (sg 211) [.ptr 239 c0, vA T 270 list1] spec_l1Pick_dec = spec_l1Pick n c0 list1 := by kernel_rfl
theorem spec_l1Pick_lo (n : Nat) : LoopsOk (T := T) (Phi n 4) (spec_l1Pick_Ls n) spec_l1Pick_ann n spec_l1Pick_code := loopsOk_all (cs := []) (by kernel_rfl) trivial
theorem spec_l1Pick_ok (n : Nat) : EntOk Try.prog (ents n) (spec_l1Pick_ent n) := by
  intro hs ar y hg h
  replace h : spec_l1Pick_D n ar = some y := h
  unfold spec_l1Pick_D at h
  replace h := ocons_some h
  obtain ⟨a0, r0, rfl, h⟩ := h
  replace h := ocons_some h
  obtain ⟨a1, r1, rfl, h⟩ := h
  replace h := onil_some h
  obtain ⟨rfl, h⟩ := h
  obtain ⟨c0, qh0, h⟩ := obind_some h
  obtain ⟨list1, qh1, h⟩ := obind_some h
  rw [argP_eq qh0, argV_eq ok qh1]
  exact call_of (phiE_nat _ _) hs ok mixed Try.func211 (c := spec_l1Pick_code) (by kernel_rfl) (spec_l1Pick_lo n) (by kernel_rfl) (by kernel_rfl) (by kernel_rfl) spec_l1Pick_de ((spec_l1Pick_tie n c0 list1).trans h)
noncomputable def spec_l6Draw_code : Code := match Try.f138.body with | some c => c | none => .skip
def spec_l6Draw_3_sv : List Sv := [.one (.ptr 4503599627370496 0 0), .one (.ptr 16 0 0), .one (.ptr 24 0 0), .one (.int .i64)]
def spec_l6Draw_3_so : List So := [.var [.arr 5, .int .i64, .int .i64], .var [.int .i64, .int .i64, .own 3000000 3 false, .own 3000001 181 false, .int .i64], .arr 3 false, .arr 181 false, .var [.int .i64, .int .i64, .own 3000002 3 false, .own 3000003 181 false, .int .i64], .arr 3 false, .arr 181 false]
def spec_l6Draw_3_emb (c : Int × Int × Int × List Int × List SFeature × Int × Int × Int × List SFeature) (x : Int × Sl1Cur × List Int) : EVs T spec_l6Draw_3_sv × EOs T spec_l6Draw_3_so := (((), (), (), x.1, ()), ((x.2.1.b, x.2.1.i, x.2.1.h, ()), (c.1, c.2.1, (), (), c.2.2.1, ()), c.2.2.2.1, c.2.2.2.2.1, (c.2.2.2.2.2.1, c.2.2.2.2.2.2.1, (), (), c.2.2.2.2.2.2.2.1, ()), x.2.2, c.2.2.2.2.2.2.2.2, ()))
def spec_l6Draw_3_prj (y : EVs T spec_l6Draw_3_sv × EOs T spec_l6Draw_3_so) : (Int × Int × Int × List Int × List SFeature × Int × Int × Int × List SFeature) × (Int × Sl1Cur × List Int) := ((y.2.2.1.1, y.2.2.1.2.1, y.2.2.1.2.2.2.2.1, y.2.2.2.1, y.2.2.2.2.1, y.2.2.2.2.2.1.1, y.2.2.2.2.2.1.2.1, y.2.2.2.2.2.1.2.2.2.2.1, y.2.2.2.2.2.2.2.1), (y.1.2.2.2.1, ((⟨y.2.1.1, y.2.1.2.1, y.2.1.2.2.1⟩ : Sl1Cur) : Sl1Cur), y.2.2.2.2.2.2.1))
def spec_l6Draw_3_b (n : Nat) {R : Type} (K : Ex → Sm.St T → Option R) (c : Int × Int × Int × List Int × List SFeature × Int × Int × Int × List SFeature) (x : Int × Sl1Cur × List Int) (J : (Int × Sl1Cur × List Int) → Option R) : Option R :=
  spec_l6Draw_L3 n (fun (y0 : Sl1Cur) (y9 : List Int) => K (.exit 0) (stOf (T := T) [0, 2, 3] [4503599627370496, 16, 3000000, 3000001, 24, 3000002, 3000003] [.one (.ptr 4503599627370496 0 0), .one (.ptr 16 0 0), .one (.ptr 24 0 0)] [.var [.arr 5, .int .i64, .int .i64], .var [.int .i64, .int .i64, .own 3000000 3 false, .own 3000001 181 false, .int .i64], .arr 3 false, .arr 181 false, .var [.int .i64, .int .i64, .own 3000002 3 false, .own 3000003 181 false, .int .i64], .arr 3 false, .arr 181 false] ((), (), (), ()) ((y0.b, y0.i, y0.h, ()), (c.1, c.2.1, (), (), c.2.2.1, ()), c.2.2.2.1, c.2.2.2.2.1, (c.2.2.2.2.2.1, c.2.2.2.2.2.2.1, (), (), c.2.2.2.2.2.2.2.1, ()), y9, c.2.2.2.2.2.2.2.2, ()))) (fun z0 z1 z2 => J (z0, z1, z2)) x.1 x.2.1 c.1 c.2.1 c.2.2.1 c.2.2.2.1 c.2.2.2.2.1 c.2.2.2.2.2.1 c.2.2.2.2.2.2.1 c.2.2.2.2.2.2.2.1 x.2.2 c.2.2.2.2.2.2.2.2
def spec_l6Draw_3_sp (n : Nat) : LSpec T := mkSpec T ⟨[((.cell 16 2), 3000000, 3), ((.cell 16 3), 3000001, 181), ((.cell 24 2), 3000002, 3), ((.cell 24 3), 3000003, 181)], [0, 2, 3, 4], [4503599627370496, 16, 3000000, 3000001, 24, 3000002, 3000003]⟩ spec_l6Draw_3_sv spec_l6Draw_3_so (Int × Int × Int × List Int × List SFeature × Int × Int × Int × List SFeature) (Int × Sl1Cur × List Int) spec_l6Draw_3_emb spec_l6Draw_3_prj (spec_l6Draw_3_b n)
noncomputable def spec_l6Draw_3_c : Code := ((loopCodes spec_l6Draw_code)[0]?).getD .skip
def spec_l6Draw_8_sv : List Sv := [.one (.ptr 4503599627370496 0 0), .one (.ptr 16 0 0), .one (.ptr 24 0 0), .one (.int .i64), .one (.int .i64)]
def spec_l6Draw_8_so : List So := [.var [.arr 5, .int .i64, .int .i64], .var [.int .i64, .int .i64, .own 3000000 3 false, .own 3000001 181 false, .int .i64], .arr 3 false, .arr 181 false, .var [.int .i64, .int .i64, .own 3000002 3 false, .own 3000003 181 false, .int .i64], .arr 3 false, .arr 181 false]
def spec_l6Draw_8_emb (c : Int × Int × Int × List Int × List SFeature × Int × Int × Int × List Int) (x : Int × Int × Sl1Cur × List SFeature) : EVs T spec_l6Draw_8_sv × EOs T spec_l6Draw_8_so := (((), (), (), x.1, x.2.1, ()), ((x.2.2.1.b, x.2.2.1.i, x.2.2.1.h, ()), (c.1, c.2.1, (), (), c.2.2.1, ()), c.2.2.2.1, c.2.2.2.2.1, (c.2.2.2.2.2.1, c.2.2.2.2.2.2.1, (), (), c.2.2.2.2.2.2.2.1, ()), c.2.2.2.2.2.2.2.2, x.2.2.2, ()))
def spec_l6Draw_8_prj (y : EVs T spec_l6Draw_8_sv × EOs T spec_l6Draw_8_so) : (Int × Int × Int × List Int × List SFeature × Int × Int × Int × List Int) × (Int × Int × Sl1Cur × List SFeature) := ((y.2.2.1.1, y.2.2.1.2.1, y.2.2.1.2.2.2.2.1, y.2.2.2.1, y.2.2.2.2.1, y.2.2.2.2.2.1.1, y.2.2.2.2.2.1.2.1, y.2.2.2.2.2.1.2.2.2.2.1, y.2.2.2.2.2.2.1), (y.1.2.2.2.1, y.1.2.2.2.2.1, ((⟨y.2.1.1, y.2.1.2.1, y.2.1.2.2.1⟩ : Sl1Cur) : Sl1Cur), y.2.2.2.2.2.2.2.1))
def spec_l6Draw_8_b (n : Nat) {R : Type} (K : Ex → Sm.St T → Option R) (c : Int × Int × Int × List Int × List SFeature × Int × Int × Int × List Int) (x : Int × Int × Sl1Cur × List SFeature) (J : (Int × Int × Sl1Cur × List SFeature) → Option R) : Option R :=
  spec_l6Draw_L8 n (fun (y9 : List SFeature) (y10 : Sl1Cur) => K (.exit 2) (stOf (T := T) [2, 3] [16, 3000000, 3000001, 24, 3000002, 3000003, 4503599627370496] [.one (.ptr 16 0 0), .one (.ptr 24 0 0)] [.var [.int .i64, .int .i64, .own 3000000 3 false, .own 3000001 181 false, .int .i64], .arr 3 false, .arr 181 false, .var [.int .i64, .int .i64, .own 3000002 3 false, .own 3000003 181 false, .int .i64], .arr 3 false, .arr 181 false, .var [.arr 5, .int .i64, .int .i64]] ((), (), ()) ((c.1, c.2.1, (), (), c.2.2.1, ()), c.2.2.2.1, c.2.2.2.2.1, (c.2.2.2.2.2.1, c.2.2.2.2.2.2.1, (), (), c.2.2.2.2.2.2.2.1, ()), c.2.2.2.2.2.2.2.2, y9, (y10.b, y10.i, y10.h, ()), ()))) (fun z0 z1 z2 z3 => J (z0, z1, z2, z3)) x.1 x.2.1 x.2.2.1 c.1 c.2.1 c.2.2.1 c.2.2.2.1 c.2.2.2.2.1 c.2.2.2.2.2.1 c.2.2.2.2.2.2.1 c.2.2.2.2.2.2.2.1 c.2.2.2.2.2.2.2.2 x.2.2.2
def spec_l6Draw_8_sp (n : Nat) : LSpec T := mkSpec T ⟨[((.cell 16 2), 3000000, 3), ((.cell 16 3), 3000001, 181), ((.cell 24 2), 3000002, 3), ((.cell 24 3), 3000003, 181)], [0, 2, 3, 5, 6], [4503599627370496, 16, 3000000, 3000001, 24, 3000002, 3000003]⟩ spec_l6Draw_8_sv spec_l6Draw_8_so (Int × Int × Int × List Int × List SFeature × Int × Int × Int × List Int) (Int × Int × Sl1Cur × List SFeature) spec_l6Draw_8_emb spec_l6Draw_8_prj (spec_l6Draw_8_b n)
noncomputable def spec_l6Draw_8_c : Code := ((loopCodes spec_l6Draw_code)[1]?).getD .skip
def spec_l6Draw_ann : Ann := fun id => bif Nat.beq id 3000003 then some ⟨[((.cell 16 2), 3000000, 3), ((.cell 16 3), 3000001, 181), ((.cell 24 2), 3000002, 3), ((.cell 24 3), 3000003, 181)], [0, 2, 3], [4503599627370496, 16, 3000000, 3000001, 24, 3000002, 3000003]⟩ else bif Nat.beq id 5000008 then some ⟨[((.cell 16 2), 3000000, 3), ((.cell 16 3), 3000001, 181), ((.cell 24 2), 3000002, 3), ((.cell 24 3), 3000003, 181)], [2, 3], [16, 3000000, 3000001, 24, 3000002, 3000003, 4503599627370496]⟩ else none
def spec_l6Draw_Ls (n : Nat) : Nat → Option (LSpec T) := fun id => bif Nat.beq id 3 then some (spec_l6Draw_3_sp n) else bif Nat.beq id 8 then some (spec_l6Draw_8_sp n) else none
theorem spec_l6Draw_3_le (n : Nat) : LoopEq (T := T) (Phi n 5) (spec_l6Draw_Ls n) spec_l6Draw_ann n spec_l6Draw_3_c (spec_l6Draw_3_sp n) := ⟨mkSpec_dec (fun y => rfl), fun c x => by kernel_rfl, fun K J c x => by kernel_rfl⟩
theorem spec_l6Draw_8_le (n : Nat) : LoopEq (T := T) (Phi n 5) (spec_l6Draw_Ls n) spec_l6Draw_ann n spec_l6Draw_8_c (spec_l6Draw_8_sp n) := ⟨mkSpec_dec (fun y => rfl), fun c x => by kernel_rfl, fun K J c x => by kernel_rfl⟩
theorem spec_l6Draw_tie (n : Nat) (c0 : Sl1Cur) : evF (T := T) (Phi n 5) (spec_l6Draw_Ls n) spec_l6Draw_ann n Try.f138 (sg 138) [.ptr 239 c0] spec_l6Draw_dec = spec_l6Draw n c0 := by kernel_rfl
theorem spec_l6Draw_lo (n : Nat) : LoopsOk (T := T) (Phi n 5) (spec_l6Draw_Ls n) spec_l6Draw_ann n spec_l6Draw_code := loopsOk_all (cs := [spec_l6Draw_3_c, spec_l6Draw_8_c]) (by kernel_rfl) ⟨⟨_, by kernel_rfl, spec_l6Draw_3_le n⟩, ⟨_, by kernel_rfl, spec_l6Draw_8_le n⟩, trivial⟩
theorem spec_l6Draw_ok (n : Nat) : EntOk Try.prog (ents n) (spec_l6Draw_ent n) := by
  intro hs ar y hg h
  replace h : spec_l6Draw_D n ar = some y := h
  unfold spec_l6Draw_D at h
  replace h := ocons_some h
  obtain ⟨a0, r0, rfl, h⟩ := h
  replace h := onil_some h
  obtain ⟨rfl, h⟩ := h
  obtain ⟨c0, qh0, h⟩ := obind_some h
  rw [argP_eq qh0]
  exact call_of (phiE_nat _ _) hs ok mixed Try.func138 (c := spec_l6Draw_code) (by kernel_rfl) (spec_l6Draw_lo n) (by kernel_rfl) (by kernel_rfl) (by kernel_rfl) spec_l6Draw_de ((spec_l6Draw_tie n c0).trans h)
noncomputable def spec_DrawEditions_code : Code := match Try.f62.body with | some c => c | none => .skip
def spec_DrawEditions_5_sv : List Sv := [.one (.ptr 16 0 0), .one (.ptr 88 0 0), .one (.ptr 40 0 0), .one (.own 3000000 85 false), .one (.int .i64)]
def spec_DrawEditions_5_so : List So := [.var [.int .i64, .int .i64, .own 3000001 3 false, .own 3000002 181 false, .int .i64], .arr 3 false, .arr 181 false, .var [.arr 5, .int .i64, .int .i64], .var [.int .i64, .int .i64, .own 3000003 3 false, .own 3000004 181 false, .int .i64], .arr 3 false, .arr 181 false, .arr 85 false]
def spec_DrawEditions_5_emb (c : Int × Int × Int × List Int × List SFeature × Int × Int × Int × List Int × List SFeature) (x : Int × Sl1Cur × List SUpdate) : EVs T spec_DrawEditions_5_sv × EOs T spec_DrawEditions_5_so := (((), (), (), (), x.1, ()), ((c.1, c.2.1, (), (), c.2.2.1, ()), c.2.2.2.1, c.2.2.2.2.1, (x.2.1.b, x.2.1.i, x.2.1.h, ()), (c.2.2.2.2.2.1, c.2.2.2.2.2.2.1, (), (), c.2.2.2.2.2.2.2.1, ()), c.2.2.2.2.2.2.2.2.1, c.2.2.2.2.2.2.2.2.2, x.2.2, ()))
def spec_DrawEditions_5_prj (y : EVs T spec_DrawEditions_5_sv × EOs T spec_DrawEditions_5_so) : (Int × Int × Int × List Int × List SFeature × Int × Int × Int × List Int × List SFeature) × (Int × Sl1Cur × List SUpdate) := ((y.2.1.1, y.2.1.2.1, y.2.1.2.2.2.2.1, y.2.2.1, y.2.2.2.1, y.2.2.2.2.2.1.1, y.2.2.2.2.2.1.2.1, y.2.2.2.2.2.1.2.2.2.2.1, y.2.2.2.2.2.2.1, y.2.2.2.2.2.2.2.1), (y.1.2.2.2.2.1, ((⟨y.2.2.2.2.1.1, y.2.2.2.2.1.2.1, y.2.2.2.2.1.2.2.1⟩ : Sl1Cur) : Sl1Cur), y.2.2.2.2.2.2.2.2.1))
def spec_DrawEditions_5_b (n : Nat) {R : Type} (K : Ex → Sm.St T → Option R) (c : Int × Int × Int × List Int × List SFeature × Int × Int × Int × List Int × List SFeature) (x : Int × Sl1Cur × List SUpdate) (J : (Int × Sl1Cur × List SUpdate) → Option R) : Option R :=
  spec_DrawEditions_L5 n (fun (y10 : List SUpdate) => K (.exit 0) (stOf (T := T) [2, 5, 6] [16, 3000001, 3000002, 40, 3000003, 3000004, 3000000] [.one (.ptr 16 0 0), .one (.ptr 40 0 0), .one (.own 3000000 85 false)] [.var [.int .i64, .int .i64, .own 3000001 3 false, .own 3000002 181 false, .int .i64], .arr 3 false, .arr 181 false, .var [.int .i64, .int .i64, .own 3000003 3 false, .own 3000004 181 false, .int .i64], .arr 3 false, .arr 181 false, .arr 85 false] ((), (), (), ()) ((c.1, c.2.1, (), (), c.2.2.1, ()), c.2.2.2.1, c.2.2.2.2.1, (c.2.2.2.2.2.1, c.2.2.2.2.2.2.1, (), (), c.2.2.2.2.2.2.2.1, ()), c.2.2.2.2.2.2.2.2.1, c.2.2.2.2.2.2.2.2.2, y10, ()))) (fun z0 z1 z2 => J (z0, z1, z2)) x.1 c.1 c.2.1 c.2.2.1 c.2.2.2.1 c.2.2.2.2.1 x.2.1 c.2.2.2.2.2.1 c.2.2.2.2.2.2.1 c.2.2.2.2.2.2.2.1 c.2.2.2.2.2.2.2.2.1 c.2.2.2.2.2.2.2.2.2 x.2.2
def spec_DrawEditions_5_sp (n : Nat) : LSpec T := mkSpec T ⟨[((.reg 6), 3000000, 85), ((.cell 16 2), 3000001, 3), ((.cell 16 3), 3000002, 181), ((.cell 40 2), 3000003, 3), ((.cell 40 3), 3000004, 181)], [2, 4, 5, 6, 7], [16, 3000001, 3000002, 88, 40, 3000003, 3000004, 3000000]⟩ spec_DrawEditions_5_sv spec_DrawEditions_5_so (Int × Int × Int × List Int × List SFeature × Int × Int × Int × List Int × List SFeature) (Int × Sl1Cur × List SUpdate) spec_DrawEditions_5_emb spec_DrawEditions_5_prj (spec_DrawEditions_5_b n)
noncomputable def spec_DrawEditions_5_c : Code := ((loopCodes spec_DrawEditions_code)[0]?).getD .skip
def spec_DrawEditions_9_sv : List Sv := [.one (.ptr 16 0 0), .one (.ptr 88 0 0), .one (.ptr 40 0 0), .one (.own 3000000 85 false), .one (.int .i64), .one (.ptr 64 0 0), .one (.int .i64)]
def spec_DrawEditions_9_so : List So := [.var [.int .i64, .int .i64, .own 3000001 3 false, .own 3000002 181 false, .int .i64], .arr 3 false, .arr 181 false, .var [.arr 5, .int .i64, .int .i64], .var [.int .i64, .int .i64, .own 3000003 3 false, .own 3000004 181 false, .int .i64], .arr 3 false, .arr 181 false, .arr 85 false, .var [.int .i64, .own 3000005 196 false], .arr 196 false]
def spec_DrawEditions_9_emb (c : Int × Int × Int × Int × List Int × List SFeature × Int × Int × Int × List Int × List SFeature × List SUpdate × Int) (x : Int × Sl1Cur × List SNote) : EVs T spec_DrawEditions_9_sv × EOs T spec_DrawEditions_9_so := (((), (), (), (), c.1, (), x.1, ()), ((c.2.1, c.2.2.1, (), (), c.2.2.2.1, ()), c.2.2.2.2.1, c.2.2.2.2.2.1, (x.2.1.b, x.2.1.i, x.2.1.h, ()), (c.2.2.2.2.2.2.1, c.2.2.2.2.2.2.2.1, (), (), c.2.2.2.2.2.2.2.2.1, ()), c.2.2.2.2.2.2.2.2.2.1, c.2.2.2.2.2.2.2.2.2.2.1, c.2.2.2.2.2.2.2.2.2.2.2.1, (c.2.2.2.2.2.2.2.2.2.2.2.2, (), ()), x.2.2, ()))
def spec_DrawEditions_9_prj (y : EVs T spec_DrawEditions_9_sv × EOs T spec_DrawEditions_9_so) : (Int × Int × Int × Int × List Int × List SFeature × Int × Int × Int × List Int × List SFeature × List SUpdate × Int) × (Int × Sl1Cur × List SNote) := ((y.1.2.2.2.2.1, y.2.1.1, y.2.1.2.1, y.2.1.2.2.2.2.1, y.2.2.1, y.2.2.2.1, y.2.2.2.2.2.1.1, y.2.2.2.2.2.1.2.1, y.2.2.2.2.2.1.2.2.2.2.1, y.2.2.2.2.2.2.1, y.2.2.2.2.2.2.2.1, y.2.2.2.2.2.2.2.2.1, y.2.2.2.2.2.2.2.2.2.1.1), (y.1.2.2.2.2.2.2.1, ((⟨y.2.2.2.2.1.1, y.2.2.2.2.1.2.1, y.2.2.2.2.1.2.2.1⟩ : Sl1Cur) : Sl1Cur), y.2.2.2.2.2.2.2.2.2.2.1))
def spec_DrawEditions_9_b (n : Nat) {R : Type} (K : Ex → Sm.St T → Option R) (c : Int × Int × Int × Int × List Int × List SFeature × Int × Int × Int × List Int × List SFeature × List SUpdate × Int) (x : Int × Sl1Cur × List SNote) (J : (Int × Sl1Cur × List SNote) → Option R) : Option R :=
  spec_DrawEditions_L9 n (fun (y6 : Sl1Cur) (y14 : List SNote) => K (.exit 2) (stOf (T := T) [2, 4, 5, 6, 7, 8] [16, 3000001, 3000002, 88, 40, 3000003, 3000004, 3000000, 64, 3000005] [.one (.ptr 16 0 0), .one (.ptr 88 0 0), .one (.ptr 40 0 0), .one (.own 3000000 85 false), .one (.int .i64), .one (.ptr 64 0 0)] [.var [.int .i64, .int .i64, .own 3000001 3 false, .own 3000002 181 false, .int .i64], .arr 3 false, .arr 181 false, .var [.arr 5, .int .i64, .int .i64], .var [.int .i64, .int .i64, .own 3000003 3 false, .own 3000004 181 false, .int .i64], .arr 3 false, .arr 181 false, .arr 85 false, .var [.int .i64, .own 3000005 196 false], .arr 196 false] ((), (), (), (), c.1, (), ()) ((c.2.1, c.2.2.1, (), (), c.2.2.2.1, ()), c.2.2.2.2.1, c.2.2.2.2.2.1, (y6.b, y6.i, y6.h, ()), (c.2.2.2.2.2.2.1, c.2.2.2.2.2.2.2.1, (), (), c.2.2.2.2.2.2.2.2.1, ()), c.2.2.2.2.2.2.2.2.2.1, c.2.2.2.2.2.2.2.2.2.2.1, c.2.2.2.2.2.2.2.2.2.2.2.1, (c.2.2.2.2.2.2.2.2.2.2.2.2, (), ()), y14, ()))) (fun z0 z1 z2 => J (z0, z1, z2)) c.1 x.1 c.2.1 c.2.2.1 c.2.2.2.1 c.2.2.2.2.1 c.2.2.2.2.2.1 x.2.1 c.2.2.2.2.2.2.1 c.2.2.2.2.2.2.2.1 c.2.2.2.2.2.2.2.2.1 c.2.2.2.2.2.2.2.2.2.1 c.2.2.2.2.2.2.2.2.2.2.1 c.2.2.2.2.2.2.2.2.2.2.2.1 c.2.2.2.2.2.2.2.2.2.2.2.2 x.2.2
def spec_DrawEditions_9_sp (n : Nat) : LSpec T := mkSpec T ⟨[((.reg 6), 3000000, 85), ((.cell 16 2), 3000001, 3), ((.cell 16 3), 3000002, 181), ((.cell 40 2), 3000003, 3), ((.cell 40 3), 3000004, 181), ((.cell 64 1), 3000005, 196)], [2, 4, 5, 6, 7, 8, 9], [16, 3000001, 3000002, 88, 40, 3000003, 3000004, 3000000, 64, 3000005]⟩ spec_DrawEditions_9_sv spec_DrawEditions_9_so (Int × Int × Int × Int × List Int × List SFeature × Int × Int × Int × List Int × List SFeature × List SUpdate × Int) (Int × Sl1Cur × List SNote) spec_DrawEditions_9_emb spec_DrawEditions_9_prj (spec_DrawEditions_9_b n)
noncomputable def spec_DrawEditions_9_c : Code := ((loopCodes spec_DrawEditions_code)[1]?).getD .skip
def spec_DrawEditions_ann : Ann := fun id => bif Nat.beq id 3000005 then some ⟨[((.reg 6), 3000000, 85), ((.cell 16 2), 3000001, 3), ((.cell 16 3), 3000002, 181), ((.cell 40 2), 3000003, 3), ((.cell 40 3), 3000004, 181)], [2, 5, 6], [16, 3000001, 3000002, 40, 3000003, 3000004, 3000000]⟩ else bif Nat.beq id 5000009 then some ⟨[((.reg 6), 3000000, 85), ((.cell 16 2), 3000001, 3), ((.cell 16 3), 3000002, 181), ((.cell 40 2), 3000003, 3), ((.cell 40 3), 3000004, 181), ((.cell 64 1), 3000005, 196)], [2, 4, 5, 6, 7, 8], [16, 3000001, 3000002, 88, 40, 3000003, 3000004, 3000000, 64, 3000005]⟩ else none
def spec_DrawEditions_Ls (n : Nat) : Nat → Option (LSpec T) := fun id => bif Nat.beq id 5 then some (spec_DrawEditions_5_sp n) else bif Nat.beq id 9 then some (spec_DrawEditions_9_sp n) else none
theorem spec_DrawEditions_5_le (n : Nat) : LoopEq (T := T) (Phi n 6) (spec_DrawEditions_Ls n) spec_DrawEditions_ann n spec_DrawEditions_5_c (spec_DrawEditions_5_sp n) := ⟨mkSpec_dec (fun y => rfl), fun c x => by kernel_rfl, fun K J c x => by kernel_rfl⟩
theorem spec_DrawEditions_9_le (n : Nat) : LoopEq (T := T) (Phi n 6) (spec_DrawEditions_Ls n) spec_DrawEditions_ann n spec_DrawEditions_9_c (spec_DrawEditions_9_sp n) := ⟨mkSpec_dec (fun y => rfl), fun c x => by kernel_rfl, fun K J c x => by kernel_rfl⟩
theorem spec_DrawEditions_tie (n : Nat) (code0 : List Int) : evF (T := T) (Phi n 6) (spec_DrawEditions_Ls n) spec_DrawEditions_ann n Try.f62 (sg 62) [vA T 22 code0] spec_DrawEditions_dec = spec_DrawEditions n code0 := by kernel_rfl
theorem spec_DrawEditions_lo (n : Nat) : LoopsOk (T := T) (Phi n 6) (spec_DrawEditions_Ls n) spec_DrawEditions_ann n spec_DrawEditions_code := loopsOk_all (cs := [spec_DrawEditions_5_c, spec_DrawEditions_9_c]) (by kernel_rfl) ⟨⟨_, by kernel_rfl, spec_DrawEditions_5_le n⟩, ⟨_, by kernel_rfl, spec_DrawEditions_9_le n⟩, trivial⟩
theorem spec_DrawEditions_ok (n : Nat) : EntOk Try.prog (ents n) (spec_DrawEditions_ent n) := by
  intro hs ar y hg h
  replace h : spec_DrawEditions_D n ar = some y := h
  unfold spec_DrawEditions_D at h
  replace h := ocons_some h
  obtain ⟨a0, r0, rfl, h⟩ := h
  replace h := onil_some h
  obtain ⟨rfl, h⟩ := h
  obtain ⟨code0, qh0, h⟩ := obind_some h
  rw [argV_eq ok qh0]
  exact call_of (phiE_nat _ _) hs ok mixed Try.func62 (c := spec_DrawEditions_code) (by kernel_rfl) (spec_DrawEditions_lo n) (by kernel_rfl) (by kernel_rfl) (by kernel_rfl) spec_DrawEditions_de ((spec_DrawEditions_tie n code0).trans h)
noncomputable def impl_own_int_code : Code := match Try.f104.body with | some c => c | none => .skip
def impl_own_int_ann : Ann := fun id => none
def impl_own_int_Ls (n : Nat) : Nat → Option (LSpec T) := fun id => none
theorem impl_own_int_tie (n : Nat) (l0 : List Int) : evF (T := T) (Phi n 7) (impl_own_int_Ls n) impl_own_int_ann n Try.f104 (sg 104) [vA T 55 l0] impl_own_int_dec = impl_own_int n l0 := by kernel_rfl
theorem impl_own_int_lo (n : Nat) : LoopsOk (T := T) (Phi n 7) (impl_own_int_Ls n) impl_own_int_ann n impl_own_int_code := loopsOk_all (cs := []) (by kernel_rfl) trivial
theorem impl_own_int_ok (n : Nat) : EntOk Try.prog (ents n) (impl_own_int_ent n) := by
  intro hs ar y hg h
  replace h : impl_own_int_D n ar = some y := h
  unfold impl_own_int_D at h
  replace h := ocons_some h
  obtain ⟨a0, r0, rfl, h⟩ := h
  replace h := onil_some h
  obtain ⟨rfl, h⟩ := h
  obtain ⟨l0, qh0, h⟩ := obind_some h
  rw [argV_eq ok qh0]
  exact call_of (phiE_nat _ _) hs ok mixed Try.func104 (c := impl_own_int_code) (by kernel_rfl) (impl_own_int_lo n) (by kernel_rfl) (by kernel_rfl) (by kernel_rfl) impl_own_int_de ((impl_own_int_tie n l0).trans h)
noncomputable def impl_own_impl_Feature_code : Code := match Try.f203.body with | some c => c | none => .skip
def impl_own_impl_Feature_ann : Ann := fun id => none
def impl_own_impl_Feature_Ls (n : Nat) : Nat → Option (LSpec T) := fun id => none
theorem impl_own_impl_Feature_tie (n : Nat) (l0 : List SFeature) : evF (T := T) (Phi n 8) (impl_own_impl_Feature_Ls n) impl_own_impl_Feature_ann n Try.f203 (sg 203) [vA T 61 l0] impl_own_impl_Feature_dec = impl_own_impl_Feature n l0 := by kernel_rfl
theorem impl_own_impl_Feature_lo (n : Nat) : LoopsOk (T := T) (Phi n 8) (impl_own_impl_Feature_Ls n) impl_own_impl_Feature_ann n impl_own_impl_Feature_code := loopsOk_all (cs := []) (by kernel_rfl) trivial
theorem impl_own_impl_Feature_ok (n : Nat) : EntOk Try.prog (ents n) (impl_own_impl_Feature_ent n) := by
  intro hs ar y hg h
  replace h : impl_own_impl_Feature_D n ar = some y := h
  unfold impl_own_impl_Feature_D at h
  replace h := ocons_some h
  obtain ⟨a0, r0, rfl, h⟩ := h
  replace h := onil_some h
  obtain ⟨rfl, h⟩ := h
  obtain ⟨l0, qh0, h⟩ := obind_some h
  rw [argV_eq ok qh0]
  exact call_of (phiE_nat _ _) hs ok mixed Try.func203 (c := impl_own_impl_Feature_code) (by kernel_rfl) (impl_own_impl_Feature_lo n) (by kernel_rfl) (by kernel_rfl) (by kernel_rfl) impl_own_impl_Feature_de ((impl_own_impl_Feature_tie n l0).trans h)
noncomputable def impl_Chart_own_code : Code := match Try.f133.body with | some c => c | none => .skip
def impl_Chart_own_ann : Ann := fun id => none
def impl_Chart_own_Ls (n : Nat) : Nat → Option (LSpec T) := fun id => none
theorem impl_Chart_own_tie (n : Nat) (c0 : SChart) : evF (T := T) (Phi n 9) (impl_Chart_own_Ls n) impl_Chart_own_ann n Try.f133 (sg 133) [vA T 63 c0] impl_Chart_own_dec = impl_Chart_own n c0 := by kernel_rfl
theorem impl_Chart_own_lo (n : Nat) : LoopsOk (T := T) (Phi n 9) (impl_Chart_own_Ls n) impl_Chart_own_ann n impl_Chart_own_code := loopsOk_all (cs := []) (by kernel_rfl) trivial
theorem impl_Chart_own_ok (n : Nat) : EntOk Try.prog (ents n) (impl_Chart_own_ent n) := by
  intro hs ar y hg h
  replace h : impl_Chart_own_D n ar = some y := h
  unfold impl_Chart_own_D at h
  replace h := ocons_some h
  obtain ⟨a0, r0, rfl, h⟩ := h
  replace h := onil_some h
  obtain ⟨rfl, h⟩ := h
  obtain ⟨c0, qh0, h⟩ := obind_some h
  rw [argV_eq ok qh0]
  exact call_of (phiE_nat _ _) hs ok mixed Try.func133 (c := impl_Chart_own_code) (by kernel_rfl) (impl_Chart_own_lo n) (by kernel_rfl) (by kernel_rfl) (by kernel_rfl) impl_Chart_own_de ((impl_Chart_own_tie n c0).trans h)
noncomputable def impl_in_code : Code := match Try.f119.body with | some c => c | none => .skip
def impl_in_ann : Ann := fun id => none
def impl_in_Ls (n : Nat) : Nat → Option (LSpec T) := fun id => none
theorem impl_in_tie (n : Nat) (n0 : Int) (least1 : Int) (most2 : Int) : evF (T := T) (Phi n 10) (impl_in_Ls n) impl_in_ann n Try.f119 (sg 119) [vA T 3 n0, vA T 3 least1, vA T 3 most2] impl_in_dec = impl_in n n0 least1 most2 := by kernel_rfl
theorem impl_in_lo (n : Nat) : LoopsOk (T := T) (Phi n 10) (impl_in_Ls n) impl_in_ann n impl_in_code := loopsOk_all (cs := []) (by kernel_rfl) trivial
theorem impl_in_ok (n : Nat) : EntOk Try.prog (ents n) (impl_in_ent n) := by
  intro hs ar y hg h
  replace h : impl_in_D n ar = some y := h
  unfold impl_in_D at h
  replace h := ocons_some h
  obtain ⟨a0, r0, rfl, h⟩ := h
  replace h := ocons_some h
  obtain ⟨a1, r1, rfl, h⟩ := h
  replace h := ocons_some h
  obtain ⟨a2, r2, rfl, h⟩ := h
  replace h := onil_some h
  obtain ⟨rfl, h⟩ := h
  obtain ⟨n0, qh0, h⟩ := obind_some h
  obtain ⟨least1, qh1, h⟩ := obind_some h
  obtain ⟨most2, qh2, h⟩ := obind_some h
  rw [argV_eq ok qh0, argV_eq ok qh1, argV_eq ok qh2]
  exact call_of (phiE_nat _ _) hs ok mixed Try.func119 (c := impl_in_code) (by kernel_rfl) (impl_in_lo n) (by kernel_rfl) (by kernel_rfl) (by kernel_rfl) impl_in_de ((impl_in_tie n n0 least1 most2).trans h)
noncomputable def impl_all_1_code : Code := match Try.f196.body with | some c => c | none => .skip
def impl_all_1_ann : Ann := fun id => none
def impl_all_1_Ls (n : Nat) : Nat → Option (LSpec T) := fun id => none
theorem impl_all_1_tie (n : Nat) (n0 : Int) (a1 : Int) (a2 : Int) : evF (T := T) (Phi n 11) (impl_all_1_Ls n) impl_all_1_ann n Try.f196 (sg 196) [vA T 3 n0, .ptr 3 a1, .ptr 3 a2] impl_all_1_dec = impl_all_1 n n0 a1 a2 := by kernel_rfl
theorem impl_all_1_lo (n : Nat) : LoopsOk (T := T) (Phi n 11) (impl_all_1_Ls n) impl_all_1_ann n impl_all_1_code := loopsOk_all (cs := []) (by kernel_rfl) trivial
theorem impl_all_1_ok (n : Nat) : EntOk Try.prog (ents n) (impl_all_1_ent n) := by
  intro hs ar y hg h
  replace h : impl_all_1_D n ar = some y := h
  unfold impl_all_1_D at h
  replace h := ocons_some h
  obtain ⟨a0, r0, rfl, h⟩ := h
  replace h := ocons_some h
  obtain ⟨a1, r1, rfl, h⟩ := h
  replace h := ocons_some h
  obtain ⟨a2, r2, rfl, h⟩ := h
  replace h := onil_some h
  obtain ⟨rfl, h⟩ := h
  obtain ⟨n0, qh0, h⟩ := obind_some h
  obtain ⟨a1, qh1, h⟩ := obind_some h
  obtain ⟨a2, qh2, h⟩ := obind_some h
  rw [argV_eq ok qh0, argP_eq qh1, argP_eq qh2]
  exact call_of (phiE_nat _ _) hs ok mixed Try.func196 (c := impl_all_1_code) (by kernel_rfl) (impl_all_1_lo n) (by kernel_rfl) (by kernel_rfl) (by kernel_rfl) impl_all_1_de ((impl_all_1_tie n n0 a1 a2).trans h)
noncomputable def slices_IndexFunc_int_int__impl_all_1_code : Code := match Try.f222.body with | some c => c | none => .skip
def slices_IndexFunc_int_int__impl_all_1_2_sv : List Sv := [.one (.arr 3), .one (.fnr 196 [3, 3]), .one (.int .i64), .one (.int .i64)]
def slices_IndexFunc_int_int__impl_all_1_2_so : List So := []
def slices_IndexFunc_int_int__impl_all_1_2_emb (c : List Int × Int × Int × Int) (x : Int) : EVs T slices_IndexFunc_int_int__impl_all_1_2_sv × EOs T slices_IndexFunc_int_int__impl_all_1_2_so := ((c.1, (c.2.1, c.2.2.1, ()), c.2.2.2, x, ()), ())
def slices_IndexFunc_int_int__impl_all_1_2_prj (y : EVs T slices_IndexFunc_int_int__impl_all_1_2_sv × EOs T slices_IndexFunc_int_int__impl_all_1_2_so) : (List Int × Int × Int × Int) × Int := ((y.1.1, y.1.2.1.1, y.1.2.1.2.1, y.1.2.2.1), (y.1.2.2.2.1))
def slices_IndexFunc_int_int__impl_all_1_2_b (n : Nat) {R : Type} (K : Ex → Sm.St T → Option R) (c : List Int × Int × Int × Int) (x : Int) (J : Int → Option R) : Option R :=
  slices_IndexFunc_int_int__impl_all_1_L2 n (K (.exit 0) (stOf (T := T) [] [] [] [] () ())) (fun (y0 : Int) => K .ret (stOf (T := T) [4] [] [.one (.int .i64)] [] (y0, ()) ())) J c.1 c.2.1 c.2.2.1 c.2.2.2 x
def slices_IndexFunc_int_int__impl_all_1_2_sp (n : Nat) : LSpec T := mkSpec T ⟨[], [0, 1, 7, 8], []⟩ slices_IndexFunc_int_int__impl_all_1_2_sv slices_IndexFunc_int_int__impl_all_1_2_so (List Int × Int × Int × Int) (Int) slices_IndexFunc_int_int__impl_all_1_2_emb slices_IndexFunc_int_int__impl_all_1_2_prj (slices_IndexFunc_int_int__impl_all_1_2_b n)
noncomputable def slices_IndexFunc_int_int__impl_all_1_2_c : Code := ((loopCodes slices_IndexFunc_int_int__impl_all_1_code)[0]?).getD .skip
def slices_IndexFunc_int_int__impl_all_1_ann : Ann := fun id => bif Nat.beq id 3000002 then some ⟨[], [], []⟩ else bif Nat.beq id 2000002 then some ⟨[], [4], []⟩ else none
def slices_IndexFunc_int_int__impl_all_1_Ls (n : Nat) : Nat → Option (LSpec T) := fun id => bif Nat.beq id 2 then some (slices_IndexFunc_int_int__impl_all_1_2_sp n) else none
theorem slices_IndexFunc_int_int__impl_all_1_2_le (n : Nat) : LoopEq (T := T) (Phi n 12) (slices_IndexFunc_int_int__impl_all_1_Ls n) slices_IndexFunc_int_int__impl_all_1_ann n slices_IndexFunc_int_int__impl_all_1_2_c (slices_IndexFunc_int_int__impl_all_1_2_sp n) := ⟨mkSpec_dec (fun y => rfl), fun c x => by kernel_rfl, fun K J c x => by kernel_rfl⟩
theorem slices_IndexFunc_int_int__impl_all_1_tie (n : Nat) (s0 : List Int) (f1c0 : Int) (f1c1 : Int) : evF (T := T) (Phi n 12) (slices_IndexFunc_int_int__impl_all_1_Ls n) slices_IndexFunc_int_int__impl_all_1_ann n Try.f222 (sg 222) [vA T 55 s0, .fn 196 [.ptr 3 f1c0, .ptr 3 f1c1]] slices_IndexFunc_int_int__impl_all_1_dec = slices_IndexFunc_int_int__impl_all_1 n s0 f1c0 f1c1 := by kernel_rfl
theorem slices_IndexFunc_int_int__impl_all_1_lo (n : Nat) : LoopsOk (T := T) (Phi n 12) (slices_IndexFunc_int_int__impl_all_1_Ls n) slices_IndexFunc_int_int__impl_all_1_ann n slices_IndexFunc_int_int__impl_all_1_code := loopsOk_all (cs := [slices_IndexFunc_int_int__impl_all_1_2_c]) (by kernel_rfl) ⟨⟨_, by kernel_rfl, slices_IndexFunc_int_int__impl_all_1_2_le n⟩, trivial⟩
theorem slices_IndexFunc_int_int__impl_all_1_ok (n : Nat) : EntOk Try.prog (ents n) (slices_IndexFunc_int_int__impl_all_1_ent n) := by
  intro hs ar y hg h
  replace h : slices_IndexFunc_int_int__impl_all_1_D n ar = some y := h
  unfold slices_IndexFunc_int_int__impl_all_1_D at h
  split at h
  · obtain ⟨s0, qh0, h⟩ := obind_some h
    obtain ⟨f1c0, qh1, h⟩ := obind_some h
    obtain ⟨f1c1, qh2, h⟩ := obind_some h
    rw [argV_eq ok qh0, argP_eq qh1, argP_eq qh2] at hg ⊢
    cases (show [_] = [196] from natsEq_eq hg)
    exact call_of (phiE_nat _ _) hs ok mixed Try.func222 (c := slices_IndexFunc_int_int__impl_all_1_code) (by kernel_rfl) (slices_IndexFunc_int_int__impl_all_1_lo n) (by kernel_rfl) (by kernel_rfl) (by kernel_rfl) slices_IndexFunc_int_int__impl_all_1_de ((slices_IndexFunc_int_int__impl_all_1_tie n s0 f1c0 f1c1).trans h)
  · cases h
noncomputable def slices_ContainsFunc_int_int__impl_all_1_code : Code := match Try.f158.body with | some c => c | none => .skip
def slices_ContainsFunc_int_int__impl_all_1_ann : Ann := fun id => none
def slices_ContainsFunc_int_int__impl_all_1_Ls (n : Nat) : Nat → Option (LSpec T) := fun id => none
theorem slices_ContainsFunc_int_int__impl_all_1_tie (n : Nat) (s0 : List Int) (f1c0 : Int) (f1c1 : Int) : evF (T := T) (Phi n 13) (slices_ContainsFunc_int_int__impl_all_1_Ls n) slices_ContainsFunc_int_int__impl_all_1_ann n Try.f158 (sg 158) [vA T 55 s0, .fn 196 [.ptr 3 f1c0, .ptr 3 f1c1]] slices_ContainsFunc_int_int__impl_all_1_dec = slices_ContainsFunc_int_int__impl_all_1 n s0 f1c0 f1c1 := by kernel_rfl
theorem slices_ContainsFunc_int_int__impl_all_1_lo (n : Nat) : LoopsOk (T := T) (Phi n 13) (slices_ContainsFunc_int_int__impl_all_1_Ls n) slices_ContainsFunc_int_int__impl_all_1_ann n slices_ContainsFunc_int_int__impl_all_1_code := loopsOk_all (cs := []) (by kernel_rfl) trivial
theorem slices_ContainsFunc_int_int__impl_all_1_ok (n : Nat) : EntOk Try.prog (ents n) (slices_ContainsFunc_int_int__impl_all_1_ent n) := by
  intro hs ar y hg h
  replace h : slices_ContainsFunc_int_int__impl_all_1_D n ar = some y := h
  unfold slices_ContainsFunc_int_int__impl_all_1_D at h
  split at h
  · obtain ⟨s0, qh0, h⟩ := obind_some h
    obtain ⟨f1c0, qh1, h⟩ := obind_some h
    obtain ⟨f1c1, qh2, h⟩ := obind_some h
    rw [argV_eq ok qh0, argP_eq qh1, argP_eq qh2] at hg ⊢
    cases (show [_] = [196] from natsEq_eq hg)
    exact call_of (phiE_nat _ _) hs ok mixed Try.func158 (c := slices_ContainsFunc_int_int__impl_all_1_code) (by kernel_rfl) (slices_ContainsFunc_int_int__impl_all_1_lo n) (by kernel_rfl) (by kernel_rfl) (by kernel_rfl) slices_ContainsFunc_int_int__impl_all_1_de ((slices_ContainsFunc_int_int__impl_all_1_tie n s0 f1c0 f1c1).trans h)
  · cases h
noncomputable def impl_all_code : Code := match Try.f120.body with | some c => c | none => .skip
def impl_all_ann : Ann := fun id => none
def impl_all_Ls (n : Nat) : Nat → Option (LSpec T) := fun id => none
theorem impl_all_tie (n : Nat) (l0 : List Int) (least1 : Int) (most2 : Int) : evF (T := T) (Phi n 14) (impl_all_Ls n) impl_all_ann n Try.f120 (sg 120) [vA T 55 l0, vA T 3 least1, vA T 3 most2] impl_all_dec = impl_all n l0 least1 most2 := by kernel_rfl
theorem impl_all_lo (n : Nat) : LoopsOk (T := T) (Phi n 14) (impl_all_Ls n) impl_all_ann n impl_all_code := loopsOk_all (cs := []) (by kernel_rfl) trivial
theorem impl_all_ok (n : Nat) : EntOk Try.prog (ents n) (impl_all_ent n) := by
  intro hs ar y hg h
  replace h : impl_all_D n ar = some y := h
  unfold impl_all_D at h
  replace h := ocons_some h
  obtain ⟨a0, r0, rfl, h⟩ := h
  replace h := ocons_some h
  obtain ⟨a1, r1, rfl, h⟩ := h
  replace h := ocons_some h
  obtain ⟨a2, r2, rfl, h⟩ := h
  replace h := onil_some h
  obtain ⟨rfl, h⟩ := h
  obtain ⟨l0, qh0, h⟩ := obind_some h
  obtain ⟨least1, qh1, h⟩ := obind_some h
  obtain ⟨most2, qh2, h⟩ := obind_some h
  rw [argV_eq ok qh0, argV_eq ok qh1, argV_eq ok qh2]
  exact call_of (phiE_nat _ _) hs ok mixed Try.func120 (c := impl_all_code) (by kernel_rfl) (impl_all_lo n) (by kernel_rfl) (by kernel_rfl) (by kernel_rfl) impl_all_de ((impl_all_tie n l0 least1 most2).trans h)
noncomputable def impl_Chart_place_code : Code := match Try.f122.body with | some c => c | none => .skip
def impl_Chart_place_ann : Ann := fun id => none
def impl_Chart_place_Ls (n : Nat) : Nat → Option (LSpec T) := fun id => none
theorem impl_Chart_place_tie (n : Nat) (c0 : SChart) (x1 : Int) (y2 : Int) : evF (T := T) (Phi n 15) (impl_Chart_place_Ls n) impl_Chart_place_ann n Try.f122 (sg 122) [vA T 63 c0, vA T 3 x1, vA T 3 y2] impl_Chart_place_dec = impl_Chart_place n c0 x1 y2 := by kernel_rfl
theorem impl_Chart_place_lo (n : Nat) : LoopsOk (T := T) (Phi n 15) (impl_Chart_place_Ls n) impl_Chart_place_ann n impl_Chart_place_code := loopsOk_all (cs := []) (by kernel_rfl) trivial
theorem impl_Chart_place_ok (n : Nat) : EntOk Try.prog (ents n) (impl_Chart_place_ent n) := by
  intro hs ar y hg h
  replace h : impl_Chart_place_D n ar = some y := h
  unfold impl_Chart_place_D at h
  replace h := ocons_some h
  obtain ⟨a0, r0, rfl, h⟩ := h
  replace h := ocons_some h
  obtain ⟨a1, r1, rfl, h⟩ := h
  replace h := ocons_some h
  obtain ⟨a2, r2, rfl, h⟩ := h
  replace h := onil_some h
  obtain ⟨rfl, h⟩ := h
  obtain ⟨c0, qh0, h⟩ := obind_some h
  obtain ⟨x1, qh1, h⟩ := obind_some h
  obtain ⟨y2, qh2, h⟩ := obind_some h
  rw [argV_eq ok qh0, argV_eq ok qh1, argV_eq ok qh2]
  exact call_of (phiE_nat _ _) hs ok mixed Try.func122 (c := impl_Chart_place_code) (by kernel_rfl) (impl_Chart_place_lo n) (by kernel_rfl) (by kernel_rfl) (by kernel_rfl) impl_Chart_place_de ((impl_Chart_place_tie n c0 x1 y2).trans h)
noncomputable def impl_Chart_featureOk_code : Code := match Try.f121.body with | some c => c | none => .skip
def impl_Chart_featureOk_ann : Ann := fun id => none
def impl_Chart_featureOk_Ls (n : Nat) : Nat → Option (LSpec T) := fun id => none
theorem impl_Chart_featureOk_tie (n : Nat) (c0 : SChart) (f1 : SFeature) : evF (T := T) (Phi n 16) (impl_Chart_featureOk_Ls n) impl_Chart_featureOk_ann n Try.f121 (sg 121) [vA T 63 c0, vA T 181 f1] impl_Chart_featureOk_dec = impl_Chart_featureOk n c0 f1 := by kernel_rfl
theorem impl_Chart_featureOk_lo (n : Nat) : LoopsOk (T := T) (Phi n 16) (impl_Chart_featureOk_Ls n) impl_Chart_featureOk_ann n impl_Chart_featureOk_code := loopsOk_all (cs := []) (by kernel_rfl) trivial
theorem impl_Chart_featureOk_ok (n : Nat) : EntOk Try.prog (ents n) (impl_Chart_featureOk_ent n) := by
  intro hs ar y hg h
  replace h : impl_Chart_featureOk_D n ar = some y := h
  unfold impl_Chart_featureOk_D at h
  replace h := ocons_some h
  obtain ⟨a0, r0, rfl, h⟩ := h
  replace h := ocons_some h
  obtain ⟨a1, r1, rfl, h⟩ := h
  replace h := onil_some h
  obtain ⟨rfl, h⟩ := h
  obtain ⟨c0, qh0, h⟩ := obind_some h
  obtain ⟨f1, qh1, h⟩ := obind_some h
  rw [argV_eq ok qh0, argV_eq ok qh1]
  exact call_of (phiE_nat _ _) hs ok mixed Try.func121 (c := impl_Chart_featureOk_code) (by kernel_rfl) (impl_Chart_featureOk_lo n) (by kernel_rfl) (by kernel_rfl) (by kernel_rfl) impl_Chart_featureOk_de ((impl_Chart_featureOk_tie n c0 f1).trans h)
noncomputable def impl_ChartOk_code : Code := match Try.f44.body with | some c => c | none => .skip
def impl_ChartOk_4_sv : List Sv := [.one (.ptr 8 0 0), .one (.arr 181), .one (.int .i64), .one (.int .i64)]
def impl_ChartOk_4_so : List So := [.var [.int .i64, .int .i64, .arr 3, .arr 181, .int .i64]]
def impl_ChartOk_4_emb (c : List SFeature × Int × SChart) (x : Int) : EVs T impl_ChartOk_4_sv × EOs T impl_ChartOk_4_so := (((), c.1, c.2.1, x, ()), ((c.2.2.Wide, c.2.2.High, c.2.2.Depths, c.2.2.Features, c.2.2.Edition, ()), ()))
def impl_ChartOk_4_prj (y : EVs T impl_ChartOk_4_sv × EOs T impl_ChartOk_4_so) : (List SFeature × Int × SChart) × Int := ((y.1.2.1, y.1.2.2.1, ((⟨y.2.1.1, y.2.1.2.1, y.2.1.2.2.1, y.2.1.2.2.2.1, y.2.1.2.2.2.2.1⟩ : SChart) : SChart)), (y.1.2.2.2.1))
def impl_ChartOk_4_b (n : Nat) {R : Type} (K : Ex → Sm.St T → Option R) (c : List SFeature × Int × SChart) (x : Int) (J : Int → Option R) : Option R :=
  impl_ChartOk_L4 n (K (.exit 0) (stOf (T := T) [] [] [] [] () ())) (fun (y0 : Bool) => K .ret (stOf (T := T) [2] [] [.one (.bool)] [] (y0, ()) ())) J c.1 c.2.1 x c.2.2
def impl_ChartOk_4_sp (n : Nat) : LSpec T := mkSpec T ⟨[], [1, 45, 46, 47], [8]⟩ impl_ChartOk_4_sv impl_ChartOk_4_so (List SFeature × Int × SChart) (Int) impl_ChartOk_4_emb impl_ChartOk_4_prj (impl_ChartOk_4_b n)
noncomputable def impl_ChartOk_4_c : Code := ((loopCodes impl_ChartOk_code)[0]?).getD .skip
def impl_ChartOk_ann : Ann := fun id => bif Nat.beq id 3000004 then some ⟨[], [], []⟩ else bif Nat.beq id 2000004 then some ⟨[], [2], []⟩ else none
def impl_ChartOk_Ls (n : Nat) : Nat → Option (LSpec T) := fun id => bif Nat.beq id 4 then some (impl_ChartOk_4_sp n) else none
theorem impl_ChartOk_4_le (n : Nat) : LoopEq (T := T) (Phi n 17) (impl_ChartOk_Ls n) impl_ChartOk_ann n impl_ChartOk_4_c (impl_ChartOk_4_sp n) := ⟨mkSpec_dec (fun y => rfl), fun c x => by kernel_rfl, fun K J c x => by kernel_rfl⟩
theorem impl_ChartOk_tie (n : Nat) (c0 : SChart) : evF (T := T) (Phi n 17) (impl_ChartOk_Ls n) impl_ChartOk_ann n Try.f44 (sg 44) [vA T 63 c0] impl_ChartOk_dec = impl_ChartOk n c0 := by kernel_rfl
theorem impl_ChartOk_lo (n : Nat) : LoopsOk (T := T) (Phi n 17) (impl_ChartOk_Ls n) impl_ChartOk_ann n impl_ChartOk_code := loopsOk_all (cs := [impl_ChartOk_4_c]) (by kernel_rfl) ⟨⟨_, by kernel_rfl, impl_ChartOk_4_le n⟩, trivial⟩
theorem impl_ChartOk_ok (n : Nat) : EntOk Try.prog (ents n) (impl_ChartOk_ent n) := by
  intro hs ar y hg h
  replace h : impl_ChartOk_D n ar = some y := h
  unfold impl_ChartOk_D at h
  replace h := ocons_some h
  obtain ⟨a0, r0, rfl, h⟩ := h
  replace h := onil_some h
  obtain ⟨rfl, h⟩ := h
  obtain ⟨c0, qh0, h⟩ := obind_some h
  rw [argV_eq ok qh0]
  exact call_of (phiE_nat _ _) hs ok mixed Try.func44 (c := impl_ChartOk_code) (by kernel_rfl) (impl_ChartOk_lo n) (by kernel_rfl) (by kernel_rfl) (by kernel_rfl) impl_ChartOk_de ((impl_ChartOk_tie n c0).trans h)
noncomputable def impl_Chart_note_1_code : Code := match Try.f205.body with | some c => c | none => .skip
def impl_Chart_note_1_ann : Ann := fun id => none
def impl_Chart_note_1_Ls (n : Nat) : Nat → Option (LSpec T) := fun id => none
theorem impl_Chart_note_1_tie (n : Nat) (f0 : SFeature) (a1 : SNote) : evF (T := T) (Phi n 18) (impl_Chart_note_1_Ls n) impl_Chart_note_1_ann n Try.f205 (sg 205) [vA T 181 f0, .ptr 196 a1] impl_Chart_note_1_dec = impl_Chart_note_1 n f0 a1 := by kernel_rfl
theorem impl_Chart_note_1_lo (n : Nat) : LoopsOk (T := T) (Phi n 18) (impl_Chart_note_1_Ls n) impl_Chart_note_1_ann n impl_Chart_note_1_code := loopsOk_all (cs := []) (by kernel_rfl) trivial
theorem impl_Chart_note_1_ok (n : Nat) : EntOk Try.prog (ents n) (impl_Chart_note_1_ent n) := by
  intro hs ar y hg h
  replace h : impl_Chart_note_1_D n ar = some y := h
  unfold impl_Chart_note_1_D at h
  replace h := ocons_some h
  obtain ⟨a0, r0, rfl, h⟩ := h
  replace h := ocons_some h
  obtain ⟨a1, r1, rfl, h⟩ := h
  replace h := onil_some h
  obtain ⟨rfl, h⟩ := h
  obtain ⟨f0, qh0, h⟩ := obind_some h
  obtain ⟨a1, qh1, h⟩ := obind_some h
  rw [argV_eq ok qh0, argP_eq qh1]
  exact call_of (phiE_nat _ _) hs ok mixed Try.func205 (c := impl_Chart_note_1_code) (by kernel_rfl) (impl_Chart_note_1_lo n) (by kernel_rfl) (by kernel_rfl) (by kernel_rfl) impl_Chart_note_1_de ((impl_Chart_note_1_tie n f0 a1).trans h)
noncomputable def slices_IndexFunc_impl_Feature_impl_Feature__impl_Chart_note_1_code : Code := match Try.f204.body with | some c => c | none => .skip
def slices_IndexFunc_impl_Feature_impl_Feature__impl_Chart_note_1_2_sv : List Sv := [.one (.arr 181), .one (.fnr 205 [196]), .one (.int .i64), .one (.int .i64)]
def slices_IndexFunc_impl_Feature_impl_Feature__impl_Chart_note_1_2_so : List So := []
def slices_IndexFunc_impl_Feature_impl_Feature__impl_Chart_note_1_2_emb (c : List SFeature × SNote × Int) (x : Int) : EVs T slices_IndexFunc_impl_Feature_impl_Feature__impl_Chart_note_1_2_sv × EOs T slices_IndexFunc_impl_Feature_impl_Feature__impl_Chart_note_1_2_so := ((c.1, (c.2.1, ()), c.2.2, x, ()), ())
def slices_IndexFunc_impl_Feature_impl_Feature__impl_Chart_note_1_2_prj (y : EVs T slices_IndexFunc_impl_Feature_impl_Feature__impl_Chart_note_1_2_sv × EOs T slices_IndexFunc_impl_Feature_impl_Feature__impl_Chart_note_1_2_so) : (List SFeature × SNote × Int) × Int := ((y.1.1, y.1.2.1.1, y.1.2.2.1), (y.1.2.2.2.1))
def slices_IndexFunc_impl_Feature_impl_Feature__impl_Chart_note_1_2_b (n : Nat) {R : Type} (K : Ex → Sm.St T → Option R) (c : List SFeature × SNote × Int) (x : Int) (J : Int → Option R) : Option R :=
  slices_IndexFunc_impl_Feature_impl_Feature__impl_Chart_note_1_L2 n (K (.exit 0) (stOf (T := T) [] [] [] [] () ())) (fun (y0 : Int) => K .ret (stOf (T := T) [4] [] [.one (.int .i64)] [] (y0, ()) ())) J c.1 c.2.1 c.2.2 x
def slices_IndexFunc_impl_Feature_impl_Feature__impl_Chart_note_1_2_sp (n : Nat) : LSpec T := mkSpec T ⟨[], [0, 1, 7, 8], []⟩ slices_IndexFunc_impl_Feature_impl_Feature__impl_Chart_note_1_2_sv slices_IndexFunc_impl_Feature_impl_Feature__impl_Chart_note_1_2_so (List SFeature × SNote × Int) (Int) slices_IndexFunc_impl_Feature_impl_Feature__impl_Chart_note_1_2_emb slices_IndexFunc_impl_Feature_impl_Feature__impl_Chart_note_1_2_prj (slices_IndexFunc_impl_Feature_impl_Feature__impl_Chart_note_1_2_b n)
noncomputable def slices_IndexFunc_impl_Feature_impl_Feature__impl_Chart_note_1_2_c : Code := ((loopCodes slices_IndexFunc_impl_Feature_impl_Feature__impl_Chart_note_1_code)[0]?).getD .skip
def slices_IndexFunc_impl_Feature_impl_Feature__impl_Chart_note_1_ann : Ann := fun id => bif Nat.beq id 3000002 then some ⟨[], [], []⟩ else bif Nat.beq id 2000002 then some ⟨[], [4], []⟩ else none
def slices_IndexFunc_impl_Feature_impl_Feature__impl_Chart_note_1_Ls (n : Nat) : Nat → Option (LSpec T) := fun id => bif Nat.beq id 2 then some (slices_IndexFunc_impl_Feature_impl_Feature__impl_Chart_note_1_2_sp n) else none
theorem slices_IndexFunc_impl_Feature_impl_Feature__impl_Chart_note_1_2_le (n : Nat) : LoopEq (T := T) (Phi n 19) (slices_IndexFunc_impl_Feature_impl_Feature__impl_Chart_note_1_Ls n) slices_IndexFunc_impl_Feature_impl_Feature__impl_Chart_note_1_ann n slices_IndexFunc_impl_Feature_impl_Feature__impl_Chart_note_1_2_c (slices_IndexFunc_impl_Feature_impl_Feature__impl_Chart_note_1_2_sp n) := ⟨mkSpec_dec (fun y => rfl), fun c x => by kernel_rfl, fun K J c x => by kernel_rfl⟩
theorem slices_IndexFunc_impl_Feature_impl_Feature__impl_Chart_note_1_tie (n : Nat) (s0 : List SFeature) (f1c0 : SNote) : evF (T := T) (Phi n 19) (slices_IndexFunc_impl_Feature_impl_Feature__impl_Chart_note_1_Ls n) slices_IndexFunc_impl_Feature_impl_Feature__impl_Chart_note_1_ann n Try.f204 (sg 204) [vA T 61 s0, .fn 205 [.ptr 196 f1c0]] slices_IndexFunc_impl_Feature_impl_Feature__impl_Chart_note_1_dec = slices_IndexFunc_impl_Feature_impl_Feature__impl_Chart_note_1 n s0 f1c0 := by kernel_rfl
theorem slices_IndexFunc_impl_Feature_impl_Feature__impl_Chart_note_1_lo (n : Nat) : LoopsOk (T := T) (Phi n 19) (slices_IndexFunc_impl_Feature_impl_Feature__impl_Chart_note_1_Ls n) slices_IndexFunc_impl_Feature_impl_Feature__impl_Chart_note_1_ann n slices_IndexFunc_impl_Feature_impl_Feature__impl_Chart_note_1_code := loopsOk_all (cs := [slices_IndexFunc_impl_Feature_impl_Feature__impl_Chart_note_1_2_c]) (by kernel_rfl) ⟨⟨_, by kernel_rfl, slices_IndexFunc_impl_Feature_impl_Feature__impl_Chart_note_1_2_le n⟩, trivial⟩
theorem slices_IndexFunc_impl_Feature_impl_Feature__impl_Chart_note_1_ok (n : Nat) : EntOk Try.prog (ents n) (slices_IndexFunc_impl_Feature_impl_Feature__impl_Chart_note_1_ent n) := by
  intro hs ar y hg h
  replace h : slices_IndexFunc_impl_Feature_impl_Feature__impl_Chart_note_1_D n ar = some y := h
  unfold slices_IndexFunc_impl_Feature_impl_Feature__impl_Chart_note_1_D at h
  split at h
  · obtain ⟨s0, qh0, h⟩ := obind_some h
    obtain ⟨f1c0, qh1, h⟩ := obind_some h
    rw [argV_eq ok qh0, argP_eq qh1] at hg ⊢
    cases (show [_] = [205] from natsEq_eq hg)
    exact call_of (phiE_nat _ _) hs ok mixed Try.func204 (c := slices_IndexFunc_impl_Feature_impl_Feature__impl_Chart_note_1_code) (by kernel_rfl) (slices_IndexFunc_impl_Feature_impl_Feature__impl_Chart_note_1_lo n) (by kernel_rfl) (by kernel_rfl) (by kernel_rfl) slices_IndexFunc_impl_Feature_impl_Feature__impl_Chart_note_1_de ((slices_IndexFunc_impl_Feature_impl_Feature__impl_Chart_note_1_tie n s0 f1c0).trans h)
  · cases h
noncomputable def impl_Chart_note_2_code : Code := match Try.f207.body with | some c => c | none => .skip
def impl_Chart_note_2_ann : Ann := fun id => none
def impl_Chart_note_2_Ls (n : Nat) : Nat → Option (LSpec T) := fun id => none
theorem impl_Chart_note_2_tie (n : Nat) (a0 : SFeature) (b1 : SFeature) : evF (T := T) (Phi n 20) (impl_Chart_note_2_Ls n) impl_Chart_note_2_ann n Try.f207 (sg 207) [vA T 181 a0, vA T 181 b1] impl_Chart_note_2_dec = impl_Chart_note_2 n a0 b1 := by kernel_rfl
theorem impl_Chart_note_2_lo (n : Nat) : LoopsOk (T := T) (Phi n 20) (impl_Chart_note_2_Ls n) impl_Chart_note_2_ann n impl_Chart_note_2_code := loopsOk_all (cs := []) (by kernel_rfl) trivial
theorem impl_Chart_note_2_ok (n : Nat) : EntOk Try.prog (ents n) (impl_Chart_note_2_ent n) := by
  intro hs ar y hg h
  replace h : impl_Chart_note_2_D n ar = some y := h
  unfold impl_Chart_note_2_D at h
  replace h := ocons_some h
  obtain ⟨a0, r0, rfl, h⟩ := h
  replace h := ocons_some h
  obtain ⟨a1, r1, rfl, h⟩ := h
  replace h := onil_some h
  obtain ⟨rfl, h⟩ := h
  obtain ⟨a0, qh0, h⟩ := obind_some h
  obtain ⟨b1, qh1, h⟩ := obind_some h
  rw [argV_eq ok qh0, argV_eq ok qh1]
  exact call_of (phiE_nat _ _) hs ok mixed Try.func207 (c := impl_Chart_note_2_code) (by kernel_rfl) (impl_Chart_note_2_lo n) (by kernel_rfl) (by kernel_rfl) (by kernel_rfl) impl_Chart_note_2_de ((impl_Chart_note_2_tie n a0 b1).trans h)
theorem slices_SortFunc_impl_Feature_impl_Feature__impl_Chart_note_2_cl (n : Nat) (x y : U 181) : PhiE (T := T) (ents n) 21 207 [vA T 181 x, vA T 181 y] some = (impl_Chart_note_2 n x y).bind fun r => some (impl_Chart_note_2_enc r) := by kernel_rfl
theorem slices_SortFunc_impl_Feature_impl_Feature__impl_Chart_note_2_ok (n : Nat) : EntOk Try.prog (ents n) (slices_SortFunc_impl_Feature_impl_Feature__impl_Chart_note_2_ent n) := by
  intro hs ar y hg h
  replace h : slices_SortFunc_impl_Feature_impl_Feature__impl_Chart_note_2_D n ar = some y := h
  unfold slices_SortFunc_impl_Feature_impl_Feature__impl_Chart_note_2_D at h
  split at h
  · obtain ⟨l0, qh0, h⟩ := obind_some h
    rw [argV_eq ok qh0] at hg ⊢
    cases (show [_] = [207] from natsEq_eq hg)
    refine sortL_call ok lay206 (e := 181) (g := 207) (caps := []) (by kernel_rfl) (by kernel_rfl) (by decide) (by kernel_rfl) (by kernel_rfl) (by kernel_rfl) (by kernel_rfl) (fun x y c hc => ?_) h
    have h1 : PhiE (T := T) (ents n) 21 207 [vA T 181 x, vA T 181 y] some = some (impl_Chart_note_2_enc c) := (slices_SortFunc_impl_Feature_impl_Feature__impl_Chart_note_2_cl n x y).trans (by rw [show impl_Chart_note_2 n x y = some c from hc]; rfl)
    obtain ⟨res, h2, h3⟩ := hs _ _ _ _ h1
    cases h3
    exact h2
  · cases h
theorem slices_Delete_impl_Feature_impl_Feature_ok (n : Nat) : EntOk Try.prog (ents n) (slices_Delete_impl_Feature_impl_Feature_ent n) := by
  intro hs ar y hg h
  replace h : slices_Delete_impl_Feature_impl_Feature_D n ar = some y := h
  unfold slices_Delete_impl_Feature_impl_Feature_D at h
  replace h := ocons_some h
  obtain ⟨a0, r1, rfl, h⟩ := h
  replace h := ocons_some h
  obtain ⟨a1, r2, rfl, h⟩ := h
  replace h := ocons_some h
  obtain ⟨a2, r3, rfl, h⟩ := h
  replace h := onil_some h
  obtain ⟨rfl, h⟩ := h
  replace h := obind_some h
  obtain ⟨l0, qh0, h⟩ := h
  replace h := obind_some h
  obtain ⟨i1, qh1, h⟩ := h
  replace h := obind_some h
  obtain ⟨j2, qh2, h⟩ := h
  replace h : delL l0 i1 j2 = some y := h
  rw [argV_eq ok qh0, argV_eq ok qh1, argV_eq ok qh2]
  exact delL_call ok dlay208 (e := 181) (by kernel_rfl) (by decide) (by kernel_rfl) (by kernel_rfl) h
noncomputable def impl_depthOk_code : Code := match Try.f209.body with | some c => c | none => .skip
def impl_depthOk_ann : Ann := fun id => none
def impl_depthOk_Ls (n : Nat) : Nat → Option (LSpec T) := fun id => none
theorem impl_depthOk_tie (n : Nat) (d0 : Int) : evF (T := T) (Phi n 23) (impl_depthOk_Ls n) impl_depthOk_ann n Try.f209 (sg 209) [vA T 3 d0] impl_depthOk_dec = impl_depthOk n d0 := by kernel_rfl
theorem impl_depthOk_lo (n : Nat) : LoopsOk (T := T) (Phi n 23) (impl_depthOk_Ls n) impl_depthOk_ann n impl_depthOk_code := loopsOk_all (cs := []) (by kernel_rfl) trivial
theorem impl_depthOk_ok (n : Nat) : EntOk Try.prog (ents n) (impl_depthOk_ent n) := by
  intro hs ar y hg h
  replace h : impl_depthOk_D n ar = some y := h
  unfold impl_depthOk_D at h
  replace h := ocons_some h
  obtain ⟨a0, r0, rfl, h⟩ := h
  replace h := onil_some h
  obtain ⟨rfl, h⟩ := h
  obtain ⟨d0, qh0, h⟩ := obind_some h
  rw [argV_eq ok qh0]
  exact call_of (phiE_nat _ _) hs ok mixed Try.func209 (c := impl_depthOk_code) (by kernel_rfl) (impl_depthOk_lo n) (by kernel_rfl) (by kernel_rfl) (by kernel_rfl) impl_depthOk_de ((impl_depthOk_tie n d0).trans h)
noncomputable def impl_Chart_note_code : Code := match Try.f134.body with | some c => c | none => .skip
def impl_Chart_note_ann : Ann := fun id => none
def impl_Chart_note_Ls (n : Nat) : Nat → Option (LSpec T) := fun id => none
theorem impl_Chart_note_tie (n : Nat) (c0 : SChart) (n1 : SNote) : evF (T := T) (Phi n 24) (impl_Chart_note_Ls n) impl_Chart_note_ann n Try.f134 (sg 134) [.ptr 63 c0, vA T 196 n1] impl_Chart_note_dec = impl_Chart_note n c0 n1 := by kernel_rfl
theorem impl_Chart_note_lo (n : Nat) : LoopsOk (T := T) (Phi n 24) (impl_Chart_note_Ls n) impl_Chart_note_ann n impl_Chart_note_code := loopsOk_all (cs := []) (by kernel_rfl) trivial
theorem impl_Chart_note_ok (n : Nat) : EntOk Try.prog (ents n) (impl_Chart_note_ent n) := by
  intro hs ar y hg h
  replace h : impl_Chart_note_D n ar = some y := h
  unfold impl_Chart_note_D at h
  replace h := ocons_some h
  obtain ⟨a0, r0, rfl, h⟩ := h
  replace h := ocons_some h
  obtain ⟨a1, r1, rfl, h⟩ := h
  replace h := onil_some h
  obtain ⟨rfl, h⟩ := h
  obtain ⟨c0, qh0, h⟩ := obind_some h
  obtain ⟨n1, qh1, h⟩ := obind_some h
  rw [argP_eq qh0, argV_eq ok qh1]
  exact call_of (phiE_nat _ _) hs ok mixed Try.func134 (c := impl_Chart_note_code) (by kernel_rfl) (impl_Chart_note_lo n) (by kernel_rfl) (by kernel_rfl) (by kernel_rfl) impl_Chart_note_de ((impl_Chart_note_tie n c0 n1).trans h)
noncomputable def impl_Apply6_code : Code := match Try.f52.body with | some c => c | none => .skip
def impl_Apply6_12_sv : List Sv := [.one (.ptr 24 0 0), .one (.ptr 32 0 0), .one (.ptr 48 0 0), .one (.ptr 56 0 0), .one (.arr 196), .one (.int .i64), .one (.int .i64)]
def impl_Apply6_12_so : List So := [.var [.int .i64, .arr 196], .var [.int .i64, .int .i64, .own 3000000 3 false, .own 3000001 181 false, .int .i64], .arr 3 false, .arr 181 false, .var [.int .i64, .int .i64, .own 3000002 3 false, .own 3000003 181 false, .int .i64], .arr 3 false, .arr 181 false, .var [.int .i64, .int .i64, .own 3000004 3 false, .own 3000005 181 false, .int .i64], .arr 3 false, .arr 181 false]
def impl_Apply6_12_emb (c : List SNote × Int × SUpdate × Int × Int × Int × List Int × List SFeature × Int × Int × Int × List Int × List SFeature) (x : Int × Int × Int × Int × List Int × List SFeature) : EVs T impl_Apply6_12_sv × EOs T impl_Apply6_12_so := (((), (), (), (), c.1, c.2.1, x.1, ()), ((c.2.2.1.Edition, c.2.2.1.Notes, ()), (c.2.2.2.1, c.2.2.2.2.1, (), (), c.2.2.2.2.2.1, ()), c.2.2.2.2.2.2.1, c.2.2.2.2.2.2.2.1, (c.2.2.2.2.2.2.2.2.1, c.2.2.2.2.2.2.2.2.2.1, (), (), c.2.2.2.2.2.2.2.2.2.2.1, ()), c.2.2.2.2.2.2.2.2.2.2.2.1, c.2.2.2.2.2.2.2.2.2.2.2.2, (x.2.1, x.2.2.1, (), (), x.2.2.2.1, ()), x.2.2.2.2.1, x.2.2.2.2.2, ()))
def impl_Apply6_12_prj (y : EVs T impl_Apply6_12_sv × EOs T impl_Apply6_12_so) : (List SNote × Int × SUpdate × Int × Int × Int × List Int × List SFeature × Int × Int × Int × List Int × List SFeature) × (Int × Int × Int × Int × List Int × List SFeature) := ((y.1.2.2.2.2.1, y.1.2.2.2.2.2.1, ((⟨y.2.1.1, y.2.1.2.1⟩ : SUpdate) : SUpdate), y.2.2.1.1, y.2.2.1.2.1, y.2.2.1.2.2.2.2.1, y.2.2.2.1, y.2.2.2.2.1, y.2.2.2.2.2.1.1, y.2.2.2.2.2.1.2.1, y.2.2.2.2.2.1.2.2.2.2.1, y.2.2.2.2.2.2.1, y.2.2.2.2.2.2.2.1), (y.1.2.2.2.2.2.2.1, y.2.2.2.2.2.2.2.2.1.1, y.2.2.2.2.2.2.2.2.1.2.1, y.2.2.2.2.2.2.2.2.1.2.2.2.2.1, y.2.2.2.2.2.2.2.2.2.1, y.2.2.2.2.2.2.2.2.2.2.1))
def impl_Apply6_12_b (n : Nat) {R : Type} (K : Ex → Sm.St T → Option R) (c : List SNote × Int × SUpdate × Int × Int × Int × List Int × List SFeature × Int × Int × Int × List Int × List SFeature) (x : Int × Int × Int × Int × List Int × List SFeature) (J : (Int × Int × Int × Int × List Int × List SFeature) → Option R) : Option R :=
  impl_Apply6_L12 n (fun (y6 : Int) (y7 : Int) (y8 : Int) (y9 : List Int) (y10 : List SFeature) => K (.exit 1) (stOf (T := T) [3, 4, 7] [24, 32, 3000000, 3000001, 56, 3000004, 3000005] [.one (.ptr 24 0 0), .one (.ptr 32 0 0), .one (.ptr 56 0 0)] [.var [.int .i64, .arr 196], .var [.int .i64, .int .i64, .own 3000000 3 false, .own 3000001 181 false, .int .i64], .arr 3 false, .arr 181 false, .var [.int .i64, .int .i64, .own 3000004 3 false, .own 3000005 181 false, .int .i64], .arr 3 false, .arr 181 false] ((), (), (), ()) ((c.2.2.1.Edition, c.2.2.1.Notes, ()), (c.2.2.2.1, c.2.2.2.2.1, (), (), c.2.2.2.2.2.1, ()), c.2.2.2.2.2.2.1, c.2.2.2.2.2.2.2.1, (y6, y7, (), (), y8, ()), y9, y10, ()))) (fun (y0 : Int) => K .ret (stOf (T := T) [4, 5] [32, 3000000, 3000001] [.one (.ptr 32 0 0), .one (.int .i64)] [.var [.int .i64, .int .i64, .own 3000000 3 false, .own 3000001 181 false, .int .i64], .arr 3 false, .arr 181 false] ((), y0, ()) ((c.2.2.2.2.2.2.2.2.1, c.2.2.2.2.2.2.2.2.2.1, (), (), c.2.2.2.2.2.2.2.2.2.2.1, ()), c.2.2.2.2.2.2.2.2.2.2.2.1, c.2.2.2.2.2.2.2.2.2.2.2.2, ()))) (fun z0 z1 z2 z3 z4 z5 => J (z0, z1, z2, z3, z4, z5)) c.1 c.2.1 x.1 c.2.2.1 c.2.2.2.1 c.2.2.2.2.1 c.2.2.2.2.2.1 c.2.2.2.2.2.2.1 c.2.2.2.2.2.2.2.1 c.2.2.2.2.2.2.2.2.1 c.2.2.2.2.2.2.2.2.2.1 c.2.2.2.2.2.2.2.2.2.2.1 c.2.2.2.2.2.2.2.2.2.2.2.1 c.2.2.2.2.2.2.2.2.2.2.2.2 x.2.1 x.2.2.1 x.2.2.2.1 x.2.2.2.2.1 x.2.2.2.2.2
def impl_Apply6_12_sp (n : Nat) : LSpec T := mkSpec T ⟨[((.cell 32 2), 3000000, 3), ((.cell 32 3), 3000001, 181), ((.cell 48 2), 3000002, 3), ((.cell 48 3), 3000003, 181), ((.cell 56 2), 3000004, 3), ((.cell 56 3), 3000005, 181)], [3, 4, 6, 7, 47, 48, 49], [24, 32, 3000000, 3000001, 48, 3000002, 3000003, 56, 3000004, 3000005]⟩ impl_Apply6_12_sv impl_Apply6_12_so (List SNote × Int × SUpdate × Int × Int × Int × List Int × List SFeature × Int × Int × Int × List Int × List SFeature) (Int × Int × Int × Int × List Int × List SFeature) impl_Apply6_12_emb impl_Apply6_12_prj (impl_Apply6_12_b n)
noncomputable def impl_Apply6_12_c : Code := ((loopCodes impl_Apply6_code)[0]?).getD .skip
def impl_Apply6_ann : Ann := fun id => bif Nat.beq id 4000012 then some ⟨[((.cell 32 2), 3000000, 3), ((.cell 32 3), 3000001, 181), ((.cell 56 2), 3000004, 3), ((.cell 56 3), 3000005, 181)], [3, 4, 7], [24, 32, 3000000, 3000001, 56, 3000004, 3000005]⟩ else bif Nat.beq id 2000012 then some ⟨[((.cell 32 2), 3000000, 3), ((.cell 32 3), 3000001, 181)], [4, 5], [32, 3000000, 3000001]⟩ else none
def impl_Apply6_Ls (n : Nat) : Nat → Option (LSpec T) := fun id => bif Nat.beq id 12 then some (impl_Apply6_12_sp n) else none
theorem impl_Apply6_12_le (n : Nat) : LoopEq (T := T) (Phi n 25) (impl_Apply6_Ls n) impl_Apply6_ann n impl_Apply6_12_c (impl_Apply6_12_sp n) := ⟨mkSpec_dec (fun y => rfl), fun c x => by kernel_rfl, fun K J c x => by kernel_rfl⟩
theorem impl_Apply6_tie (n : Nat) (c0 : SChart) (u1 : SUpdate) : evF (T := T) (Phi n 25) (impl_Apply6_Ls n) impl_Apply6_ann n Try.f52 (sg 52) [vA T 63 c0, vA T 85 u1] impl_Apply6_dec = impl_Apply6 n c0 u1 := by kernel_rfl
theorem impl_Apply6_lo (n : Nat) : LoopsOk (T := T) (Phi n 25) (impl_Apply6_Ls n) impl_Apply6_ann n impl_Apply6_code := loopsOk_all (cs := [impl_Apply6_12_c]) (by kernel_rfl) ⟨⟨_, by kernel_rfl, impl_Apply6_12_le n⟩, trivial⟩
theorem impl_Apply6_ok (n : Nat) : EntOk Try.prog (ents n) (impl_Apply6_ent n) := by
  intro hs ar y hg h
  replace h : impl_Apply6_D n ar = some y := h
  unfold impl_Apply6_D at h
  replace h := ocons_some h
  obtain ⟨a0, r0, rfl, h⟩ := h
  replace h := ocons_some h
  obtain ⟨a1, r1, rfl, h⟩ := h
  replace h := onil_some h
  obtain ⟨rfl, h⟩ := h
  obtain ⟨c0, qh0, h⟩ := obind_some h
  obtain ⟨u1, qh1, h⟩ := obind_some h
  rw [argV_eq ok qh0, argV_eq ok qh1]
  exact call_of (phiE_nat _ _) hs ok mixed Try.func52 (c := impl_Apply6_code) (by kernel_rfl) (impl_Apply6_lo n) (by kernel_rfl) (by kernel_rfl) (by kernel_rfl) impl_Apply6_de ((impl_Apply6_tie n c0 u1).trans h)
noncomputable def laws_at_code : Code := match Try.f17.body with | some c => c | none => .skip
def laws_at_ann : Ann := fun id => none
def laws_at_Ls (n : Nat) : Nat → Option (LSpec T) := fun id => none
theorem laws_at_tie (n : Nat) (code0 : List Int) (i1 : Int) : evF (T := T) (Phi n 26) (laws_at_Ls n) laws_at_ann n Try.f17 (sg 17) [vA T 22 code0, vA T 3 i1] laws_at_dec = laws_at n code0 i1 := by kernel_rfl
theorem laws_at_lo (n : Nat) : LoopsOk (T := T) (Phi n 26) (laws_at_Ls n) laws_at_ann n laws_at_code := loopsOk_all (cs := []) (by kernel_rfl) trivial
theorem laws_at_ok (n : Nat) : EntOk Try.prog (ents n) (laws_at_ent n) := by
  intro hs ar y hg h
  replace h : laws_at_D n ar = some y := h
  unfold laws_at_D at h
  replace h := ocons_some h
  obtain ⟨a0, r0, rfl, h⟩ := h
  replace h := ocons_some h
  obtain ⟨a1, r1, rfl, h⟩ := h
  replace h := onil_some h
  obtain ⟨rfl, h⟩ := h
  obtain ⟨code0, qh0, h⟩ := obind_some h
  obtain ⟨i1, qh1, h⟩ := obind_some h
  rw [argV_eq ok qh0, argV_eq ok qh1]
  exact call_of (phiE_nat _ _) hs ok mixed Try.func17 (c := laws_at_code) (by kernel_rfl) (laws_at_lo n) (by kernel_rfl) (by kernel_rfl) (by kernel_rfl) laws_at_de ((laws_at_tie n code0 i1).trans h)
noncomputable def impl_Catch_code : Code := match Try.f59.body with | some c => c | none => .skip
def impl_Catch_6_sv : List Sv := [.one (.arr 85), .one (.ptr 16 0 0), .one (.ptr 32 0 0), .one (.own 3000000 4 false), .one (.bool)]
def impl_Catch_6_so : List So := [.var [.int .i64, .int .i64, .own 3000001 3 false, .own 3000002 181 false, .int .i64], .arr 3 false, .arr 181 false, .var [.int .i64, .int .i64, .own 3000003 3 false, .own 3000004 181 false, .int .i64], .arr 3 false, .arr 181 false, .arr 4 false]
def impl_Catch_6_emb (c : List SUpdate × Int × Int × Int × List Int × List SFeature) (x : Bool × Int × Int × Int × List Int × List SFeature × List Bool) : EVs T impl_Catch_6_sv × EOs T impl_Catch_6_so := ((c.1, (), (), (), x.1, ()), ((x.2.1, x.2.2.1, (), (), x.2.2.2.1, ()), x.2.2.2.2.1, x.2.2.2.2.2.1, (c.2.1, c.2.2.1, (), (), c.2.2.2.1, ()), c.2.2.2.2.1, c.2.2.2.2.2, x.2.2.2.2.2.2, ()))
def impl_Catch_6_prj (y : EVs T impl_Catch_6_sv × EOs T impl_Catch_6_so) : (List SUpdate × Int × Int × Int × List Int × List SFeature) × (Bool × Int × Int × Int × List Int × List SFeature × List Bool) := ((y.1.1, y.2.2.2.2.1.1, y.2.2.2.2.1.2.1, y.2.2.2.2.1.2.2.2.2.1, y.2.2.2.2.2.1, y.2.2.2.2.2.2.1), (y.1.2.2.2.2.1, y.2.1.1, y.2.1.2.1, y.2.1.2.2.2.2.1, y.2.2.1, y.2.2.2.1, y.2.2.2.2.2.2.2.1))
def impl_Catch_6_b (n : Nat) {R : Type} (K : Ex → Sm.St T → Option R) (c : List SUpdate × Int × Int × Int × List Int × List SFeature) (x : Bool × Int × Int × Int × List Int × List SFeature × List Bool) (J : (Bool × Int × Int × Int × List Int × List SFeature × List Bool) → Option R) : Option R :=
  impl_Catch_L6 n (fun (y0 : Int) (y1 : Int) (y2 : Int) (y3 : List Int) (y4 : List SFeature) (y10 : List Bool) => K (.exit 0) (stOf (T := T) [2, 4, 6] [16, 3000001, 3000002, 32, 3000003, 3000004, 3000000] [.one (.ptr 16 0 0), .one (.ptr 32 0 0), .one (.own 3000000 4 false)] [.var [.int .i64, .int .i64, .own 3000001 3 false, .own 3000002 181 false, .int .i64], .arr 3 false, .arr 181 false, .var [.int .i64, .int .i64, .own 3000003 3 false, .own 3000004 181 false, .int .i64], .arr 3 false, .arr 181 false, .arr 4 false] ((), (), (), ()) ((y0, y1, (), (), y2, ()), y3, y4, (c.2.1, c.2.2.1, (), (), c.2.2.2.1, ()), c.2.2.2.2.1, c.2.2.2.2.2, y10, ()))) (fun z0 z1 z2 z3 z4 z5 z6 => J (z0, z1, z2, z3, z4, z5, z6)) c.1 x.1 x.2.1 x.2.2.1 x.2.2.2.1 x.2.2.2.2.1 x.2.2.2.2.2.1 c.2.1 c.2.2.1 c.2.2.2.1 c.2.2.2.2.1 c.2.2.2.2.2 x.2.2.2.2.2.2
def impl_Catch_6_sp (n : Nat) : LSpec T := mkSpec T ⟨[((.reg 6), 3000000, 4), ((.cell 16 2), 3000001, 3), ((.cell 16 3), 3000002, 181), ((.cell 32 2), 3000003, 3), ((.cell 32 3), 3000004, 181)], [1, 2, 4, 6, 7], [16, 3000001, 3000002, 32, 3000003, 3000004, 3000000]⟩ impl_Catch_6_sv impl_Catch_6_so (List SUpdate × Int × Int × Int × List Int × List SFeature) (Bool × Int × Int × Int × List Int × List SFeature × List Bool) impl_Catch_6_emb impl_Catch_6_prj (impl_Catch_6_b n)
noncomputable def impl_Catch_6_c : Code := ((loopCodes impl_Catch_code)[0]?).getD .skip
def impl_Catch_9_sv : List Sv := [.one (.arr 85), .one (.ptr 16 0 0), .one (.ptr 32 0 0), .one (.own 3000000 4 false), .one (.bool), .one (.arr 85), .one (.int .i64), .one (.int .i64)]
def impl_Catch_9_so : List So := [.var [.int .i64, .int .i64, .own 3000001 3 false, .own 3000002 181 false, .int .i64], .arr 3 false, .arr 181 false, .var [.int .i64, .int .i64, .own 3000003 3 false, .own 3000004 181 false, .int .i64], .arr 3 false, .arr 181 false, .arr 4 false]
def impl_Catch_9_emb (c : List SUpdate × Bool × List SUpdate × Int × Int × Int × Int × List Int × List SFeature × Int × Int × Int × List Int × List SFeature × List Bool) (x : Int) : EVs T impl_Catch_9_sv × EOs T impl_Catch_9_so := ((c.1, (), (), (), c.2.1, c.2.2.1, c.2.2.2.1, x, ()), ((c.2.2.2.2.1, c.2.2.2.2.2.1, (), (), c.2.2.2.2.2.2.1, ()), c.2.2.2.2.2.2.2.1, c.2.2.2.2.2.2.2.2.1, (c.2.2.2.2.2.2.2.2.2.1, c.2.2.2.2.2.2.2.2.2.2.1, (), (), c.2.2.2.2.2.2.2.2.2.2.2.1, ()), c.2.2.2.2.2.2.2.2.2.2.2.2.1, c.2.2.2.2.2.2.2.2.2.2.2.2.2.1, c.2.2.2.2.2.2.2.2.2.2.2.2.2.2, ()))
def impl_Catch_9_prj (y : EVs T impl_Catch_9_sv × EOs T impl_Catch_9_so) : (List SUpdate × Bool × List SUpdate × Int × Int × Int × Int × List Int × List SFeature × Int × Int × Int × List Int × List SFeature × List Bool) × Int := ((y.1.1, y.1.2.2.2.2.1, y.1.2.2.2.2.2.1, y.1.2.2.2.2.2.2.1, y.2.1.1, y.2.1.2.1, y.2.1.2.2.2.2.1, y.2.2.1, y.2.2.2.1, y.2.2.2.2.1.1, y.2.2.2.2.1.2.1, y.2.2.2.2.1.2.2.2.2.1, y.2.2.2.2.2.1, y.2.2.2.2.2.2.1, y.2.2.2.2.2.2.2.1), (y.1.2.2.2.2.2.2.2.1))
def impl_Catch_9_b (n : Nat) {R : Type} (K : Ex → Sm.St T → Option R) (c : List SUpdate × Bool × List SUpdate × Int × Int × Int × Int × List Int × List SFeature × Int × Int × Int × List Int × List SFeature × List Bool) (x : Int) (J : Int → Option R) : Option R :=
  impl_Catch_L9 n (fun (y1 : Bool) (y2 : Int) (y3 : Int) (y4 : Int) (y5 : List Int) (y6 : List SFeature) (y12 : List Bool) => K (.exit 2) (stOf (T := T) [1, 2, 4, 6, 7] [16, 3000001, 3000002, 32, 3000003, 3000004, 3000000] [.one (.arr 85), .one (.ptr 16 0 0), .one (.ptr 32 0 0), .one (.own 3000000 4 false), .one (.bool)] [.var [.int .i64, .int .i64, .own 3000001 3 false, .own 3000002 181 false, .int .i64], .arr 3 false, .arr 181 false, .var [.int .i64, .int .i64, .own 3000003 3 false, .own 3000004 181 false, .int .i64], .arr 3 false, .arr 181 false, .arr 4 false] (c.1, (), (), (), y1, ()) ((y2, y3, (), (), y4, ()), y5, y6, (c.2.2.2.2.2.2.2.2.2.1, c.2.2.2.2.2.2.2.2.2.2.1, (), (), c.2.2.2.2.2.2.2.2.2.2.2.1, ()), c.2.2.2.2.2.2.2.2.2.2.2.2.1, c.2.2.2.2.2.2.2.2.2.2.2.2.2.1, y12, ()))) J c.1 c.2.1 c.2.2.1 c.2.2.2.1 x c.2.2.2.2.1 c.2.2.2.2.2.1 c.2.2.2.2.2.2.1 c.2.2.2.2.2.2.2.1 c.2.2.2.2.2.2.2.2.1 c.2.2.2.2.2.2.2.2.2.1 c.2.2.2.2.2.2.2.2.2.2.1 c.2.2.2.2.2.2.2.2.2.2.2.1 c.2.2.2.2.2.2.2.2.2.2.2.2.1 c.2.2.2.2.2.2.2.2.2.2.2.2.2.1 c.2.2.2.2.2.2.2.2.2.2.2.2.2.2
def impl_Catch_9_sp (n : Nat) : LSpec T := mkSpec T ⟨[((.reg 6), 3000000, 4), ((.cell 16 2), 3000001, 3), ((.cell 16 3), 3000002, 181), ((.cell 32 2), 3000003, 3), ((.cell 32 3), 3000004, 181)], [1, 2, 4, 6, 7, 25, 26, 27], [16, 3000001, 3000002, 32, 3000003, 3000004, 3000000]⟩ impl_Catch_9_sv impl_Catch_9_so (List SUpdate × Bool × List SUpdate × Int × Int × Int × Int × List Int × List SFeature × Int × Int × Int × List Int × List SFeature × List Bool) (Int) impl_Catch_9_emb impl_Catch_9_prj (impl_Catch_9_b n)
noncomputable def impl_Catch_9_c : Code := ((loopCodes impl_Catch_code)[1]?).getD .skip
def impl_Catch_18_sv : List Sv := [.one (.ptr 16 0 0), .one (.ptr 32 0 0), .one (.own 3000005 3 false), .one (.own 3000006 4 false), .one (.int .i64), .one (.int .i64)]
def impl_Catch_18_so : List So := [.var [.int .i64, .int .i64, .own 3000001 3 false, .own 3000002 181 false, .int .i64], .arr 3 false, .arr 181 false, .var [.int .i64, .int .i64, .own 3000003 3 false, .own 3000004 181 false, .int .i64], .arr 3 false, .arr 181 false, .arr 3 false, .arr 4 false]
def impl_Catch_18_emb (c : Int × Int × Int × Int × List Int × List SFeature × Int × Int × Int × List Int × List SFeature × List Bool) (x : Int × List Int) : EVs T impl_Catch_18_sv × EOs T impl_Catch_18_so := (((), (), (), (), c.1, x.1, ()), ((c.2.1, c.2.2.1, (), (), c.2.2.2.1, ()), c.2.2.2.2.1, c.2.2.2.2.2.1, (c.2.2.2.2.2.2.1, c.2.2.2.2.2.2.2.1, (), (), c.2.2.2.2.2.2.2.2.1, ()), c.2.2.2.2.2.2.2.2.2.1, c.2.2.2.2.2.2.2.2.2.2.1, x.2, c.2.2.2.2.2.2.2.2.2.2.2, ()))
def impl_Catch_18_prj (y : EVs T impl_Catch_18_sv × EOs T impl_Catch_18_so) : (Int × Int × Int × Int × List Int × List SFeature × Int × Int × Int × List Int × List SFeature × List Bool) × (Int × List Int) := ((y.1.2.2.2.2.1, y.2.1.1, y.2.1.2.1, y.2.1.2.2.2.2.1, y.2.2.1, y.2.2.2.1, y.2.2.2.2.1.1, y.2.2.2.2.1.2.1, y.2.2.2.2.1.2.2.2.2.1, y.2.2.2.2.2.1, y.2.2.2.2.2.2.1, y.2.2.2.2.2.2.2.2.1), (y.1.2.2.2.2.2.1, y.2.2.2.2.2.2.2.1))
def impl_Catch_18_b (n : Nat) {R : Type} (K : Ex → Sm.St T → Option R) (c : Int × Int × Int × Int × List Int × List SFeature × Int × Int × Int × List Int × List SFeature × List Bool) (x : Int × List Int) (J : (Int × List Int) → Option R) : Option R :=
  impl_Catch_L18 n (fun (y10 : List Int) => K (.exit 4) (stOf (T := T) [2, 4, 12] [16, 3000001, 3000002, 32, 3000003, 3000004, 3000005] [.one (.ptr 16 0 0), .one (.ptr 32 0 0), .one (.own 3000005 3 false)] [.var [.int .i64, .int .i64, .own 3000001 3 false, .own 3000002 181 false, .int .i64], .arr 3 false, .arr 181 false, .var [.int .i64, .int .i64, .own 3000003 3 false, .own 3000004 181 false, .int .i64], .arr 3 false, .arr 181 false, .arr 3 false] ((), (), (), ()) ((c.2.1, c.2.2.1, (), (), c.2.2.2.1, ()), c.2.2.2.2.1, c.2.2.2.2.2.1, (c.2.2.2.2.2.2.1, c.2.2.2.2.2.2.2.1, (), (), c.2.2.2.2.2.2.2.2.1, ()), c.2.2.2.2.2.2.2.2.2.1, c.2.2.2.2.2.2.2.2.2.2.1, y10, ()))) (fun z0 z1 => J (z0, z1)) c.1 x.1 c.2.1 c.2.2.1 c.2.2.2.1 c.2.2.2.2.1 c.2.2.2.2.2.1 c.2.2.2.2.2.2.1 c.2.2.2.2.2.2.2.1 c.2.2.2.2.2.2.2.2.1 c.2.2.2.2.2.2.2.2.2.1 c.2.2.2.2.2.2.2.2.2.2.1 x.2 c.2.2.2.2.2.2.2.2.2.2.2
def impl_Catch_18_sp (n : Nat) : LSpec T := mkSpec T ⟨[((.reg 12), 3000005, 3), ((.reg 49), 3000006, 4), ((.cell 16 2), 3000001, 3), ((.cell 16 3), 3000002, 181), ((.cell 32 2), 3000003, 3), ((.cell 32 3), 3000004, 181)], [2, 4, 12, 49, 50, 51], [16, 3000001, 3000002, 32, 3000003, 3000004, 3000005, 3000006]⟩ impl_Catch_18_sv impl_Catch_18_so (Int × Int × Int × Int × List Int × List SFeature × Int × Int × Int × List Int × List SFeature × List Bool) (Int × List Int) impl_Catch_18_emb impl_Catch_18_prj (impl_Catch_18_b n)
noncomputable def impl_Catch_18_c : Code := ((loopCodes impl_Catch_code)[2]?).getD .skip
def impl_Catch_ann : Ann := fun id => bif Nat.beq id 3000006 then some ⟨[((.reg 6), 3000000, 4), ((.cell 16 2), 3000001, 3), ((.cell 16 3), 3000002, 181), ((.cell 32 2), 3000003, 3), ((.cell 32 3), 3000004, 181)], [2, 4, 6], [16, 3000001, 3000002, 32, 3000003, 3000004, 3000000]⟩ else bif Nat.beq id 5000009 then some ⟨[((.reg 6), 3000000, 4), ((.cell 16 2), 3000001, 3), ((.cell 16 3), 3000002, 181), ((.cell 32 2), 3000003, 3), ((.cell 32 3), 3000004, 181)], [1, 2, 4, 6, 7], [16, 3000001, 3000002, 32, 3000003, 3000004, 3000000]⟩ else bif Nat.beq id 7000018 then some ⟨[((.reg 12), 3000005, 3), ((.cell 16 2), 3000001, 3), ((.cell 16 3), 3000002, 181), ((.cell 32 2), 3000003, 3), ((.cell 32 3), 3000004, 181)], [2, 4, 12], [16, 3000001, 3000002, 32, 3000003, 3000004, 3000005]⟩ else none
def impl_Catch_Ls (n : Nat) : Nat → Option (LSpec T) := fun id => bif Nat.beq id 6 then some (impl_Catch_6_sp n) else bif Nat.beq id 9 then some (impl_Catch_9_sp n) else bif Nat.beq id 18 then some (impl_Catch_18_sp n) else none
theorem impl_Catch_6_le (n : Nat) : LoopEq (T := T) (Phi n 27) (impl_Catch_Ls n) impl_Catch_ann n impl_Catch_6_c (impl_Catch_6_sp n) := ⟨mkSpec_dec (fun y => rfl), fun c x => by kernel_rfl, fun K J c x => by kernel_rfl⟩
theorem impl_Catch_9_le (n : Nat) : LoopEq (T := T) (Phi n 27) (impl_Catch_Ls n) impl_Catch_ann n impl_Catch_9_c (impl_Catch_9_sp n) := ⟨mkSpec_dec (fun y => rfl), fun c x => by kernel_rfl, fun K J c x => by kernel_rfl⟩
theorem impl_Catch_18_le (n : Nat) : LoopEq (T := T) (Phi n 27) (impl_Catch_Ls n) impl_Catch_ann n impl_Catch_18_c (impl_Catch_18_sp n) := ⟨mkSpec_dec (fun y => rfl), fun c x => by kernel_rfl, fun K J c x => by kernel_rfl⟩
theorem impl_Catch_tie (n : Nat) (c0 : SChart) (list1 : List SUpdate) : evF (T := T) (Phi n 27) (impl_Catch_Ls n) impl_Catch_ann n Try.f59 (sg 59) [vA T 63 c0, vA T 94 list1] impl_Catch_dec = impl_Catch n c0 list1 := by kernel_rfl
theorem impl_Catch_lo (n : Nat) : LoopsOk (T := T) (Phi n 27) (impl_Catch_Ls n) impl_Catch_ann n impl_Catch_code := loopsOk_all (cs := [impl_Catch_6_c, impl_Catch_9_c, impl_Catch_18_c]) (by kernel_rfl) ⟨⟨_, by kernel_rfl, impl_Catch_6_le n⟩, ⟨_, by kernel_rfl, impl_Catch_9_le n⟩, ⟨_, by kernel_rfl, impl_Catch_18_le n⟩, trivial⟩
theorem impl_Catch_ok (n : Nat) : EntOk Try.prog (ents n) (impl_Catch_ent n) := by
  intro hs ar y hg h
  replace h : impl_Catch_D n ar = some y := h
  unfold impl_Catch_D at h
  replace h := ocons_some h
  obtain ⟨a0, r0, rfl, h⟩ := h
  replace h := ocons_some h
  obtain ⟨a1, r1, rfl, h⟩ := h
  replace h := onil_some h
  obtain ⟨rfl, h⟩ := h
  obtain ⟨c0, qh0, h⟩ := obind_some h
  obtain ⟨list1, qh1, h⟩ := obind_some h
  rw [argV_eq ok qh0, argV_eq ok qh1]
  exact call_of (phiE_nat _ _) hs ok mixed Try.func59 (c := impl_Catch_code) (by kernel_rfl) (impl_Catch_lo n) (by kernel_rfl) (by kernel_rfl) (by kernel_rfl) impl_Catch_de ((impl_Catch_tie n c0 list1).trans h)
noncomputable def laws_sameInts_code : Code := match Try.f63.body with | some c => c | none => .skip
def laws_sameInts_4_sv : List Sv := [.one (.arr 3), .one (.arr 3), .one (.int .i64)]
def laws_sameInts_4_so : List So := []
def laws_sameInts_4_emb (c : List Int × List Int) (x : Int) : EVs T laws_sameInts_4_sv × EOs T laws_sameInts_4_so := ((c.1, c.2, x, ()), ())
def laws_sameInts_4_prj (y : EVs T laws_sameInts_4_sv × EOs T laws_sameInts_4_so) : (List Int × List Int) × Int := ((y.1.1, y.1.2.1), (y.1.2.2.1))
def laws_sameInts_4_b (n : Nat) {R : Type} (K : Ex → Sm.St T → Option R) (c : List Int × List Int) (x : Int) (J : Int → Option R) : Option R :=
  laws_sameInts_L4 n (K (.exit 0) (stOf (T := T) [] [] [] [] () ())) (fun (y0 : Bool) => K .ret (stOf (T := T) [4] [] [.one (.bool)] [] (y0, ()) ())) J c.1 c.2 x
def laws_sameInts_4_sp (n : Nat) : LSpec T := mkSpec T ⟨[], [0, 1, 5], []⟩ laws_sameInts_4_sv laws_sameInts_4_so (List Int × List Int) (Int) laws_sameInts_4_emb laws_sameInts_4_prj (laws_sameInts_4_b n)
noncomputable def laws_sameInts_4_c : Code := ((loopCodes laws_sameInts_code)[0]?).getD .skip
def laws_sameInts_ann : Ann := fun id => bif Nat.beq id 3000004 then some ⟨[], [], []⟩ else bif Nat.beq id 2000004 then some ⟨[], [4], []⟩ else none
def laws_sameInts_Ls (n : Nat) : Nat → Option (LSpec T) := fun id => bif Nat.beq id 4 then some (laws_sameInts_4_sp n) else none
theorem laws_sameInts_4_le (n : Nat) : LoopEq (T := T) (Phi n 28) (laws_sameInts_Ls n) laws_sameInts_ann n laws_sameInts_4_c (laws_sameInts_4_sp n) := ⟨mkSpec_dec (fun y => rfl), fun c x => by kernel_rfl, fun K J c x => by kernel_rfl⟩
theorem laws_sameInts_tie (n : Nat) (a0 : List Int) (b1 : List Int) : evF (T := T) (Phi n 28) (laws_sameInts_Ls n) laws_sameInts_ann n Try.f63 (sg 63) [vA T 55 a0, vA T 55 b1] laws_sameInts_dec = laws_sameInts n a0 b1 := by kernel_rfl
theorem laws_sameInts_lo (n : Nat) : LoopsOk (T := T) (Phi n 28) (laws_sameInts_Ls n) laws_sameInts_ann n laws_sameInts_code := loopsOk_all (cs := [laws_sameInts_4_c]) (by kernel_rfl) ⟨⟨_, by kernel_rfl, laws_sameInts_4_le n⟩, trivial⟩
theorem laws_sameInts_ok (n : Nat) : EntOk Try.prog (ents n) (laws_sameInts_ent n) := by
  intro hs ar y hg h
  replace h : laws_sameInts_D n ar = some y := h
  unfold laws_sameInts_D at h
  replace h := ocons_some h
  obtain ⟨a0, r0, rfl, h⟩ := h
  replace h := ocons_some h
  obtain ⟨a1, r1, rfl, h⟩ := h
  replace h := onil_some h
  obtain ⟨rfl, h⟩ := h
  obtain ⟨a0, qh0, h⟩ := obind_some h
  obtain ⟨b1, qh1, h⟩ := obind_some h
  rw [argV_eq ok qh0, argV_eq ok qh1]
  exact call_of (phiE_nat _ _) hs ok mixed Try.func63 (c := laws_sameInts_code) (by kernel_rfl) (laws_sameInts_lo n) (by kernel_rfl) (by kernel_rfl) (by kernel_rfl) laws_sameInts_de ((laws_sameInts_tie n a0 b1).trans h)
noncomputable def impl_DepthAt_code : Code := match Try.f45.body with | some c => c | none => .skip
def impl_DepthAt_ann : Ann := fun id => none
def impl_DepthAt_Ls (n : Nat) : Nat → Option (LSpec T) := fun id => none
theorem impl_DepthAt_tie (n : Nat) (c0 : SChart) (x1 : Int) (y2 : Int) : evF (T := T) (Phi n 29) (impl_DepthAt_Ls n) impl_DepthAt_ann n Try.f45 (sg 45) [vA T 63 c0, vA T 3 x1, vA T 3 y2] impl_DepthAt_dec = impl_DepthAt n c0 x1 y2 := by kernel_rfl
theorem impl_DepthAt_lo (n : Nat) : LoopsOk (T := T) (Phi n 29) (impl_DepthAt_Ls n) impl_DepthAt_ann n impl_DepthAt_code := loopsOk_all (cs := []) (by kernel_rfl) trivial
theorem impl_DepthAt_ok (n : Nat) : EntOk Try.prog (ents n) (impl_DepthAt_ent n) := by
  intro hs ar y hg h
  replace h : impl_DepthAt_D n ar = some y := h
  unfold impl_DepthAt_D at h
  replace h := ocons_some h
  obtain ⟨a0, r0, rfl, h⟩ := h
  replace h := ocons_some h
  obtain ⟨a1, r1, rfl, h⟩ := h
  replace h := ocons_some h
  obtain ⟨a2, r2, rfl, h⟩ := h
  replace h := onil_some h
  obtain ⟨rfl, h⟩ := h
  obtain ⟨c0, qh0, h⟩ := obind_some h
  obtain ⟨x1, qh1, h⟩ := obind_some h
  obtain ⟨y2, qh2, h⟩ := obind_some h
  rw [argV_eq ok qh0, argV_eq ok qh1, argV_eq ok qh2]
  exact call_of (phiE_nat _ _) hs ok mixed Try.func45 (c := impl_DepthAt_code) (by kernel_rfl) (impl_DepthAt_lo n) (by kernel_rfl) (by kernel_rfl) (by kernel_rfl) impl_DepthAt_de ((impl_DepthAt_tie n c0 x1 y2).trans h)
noncomputable def laws_FnCaught_code : Code := match Try.f10.body with | some c => c | none => .skip
def laws_FnCaught_6_sv : List Sv := [.one (.arr 5), .one (.ptr 24 0 0), .one (.own 3000000 85 false), .one (.ptr 40 0 0), .one (.int .i64)]
def laws_FnCaught_6_so : List So := [.var [.int .i64, .int .i64, .arr 3, .arr 181, .int .i64], .arr 85 false, .var [.int .i64, .int .i64, .arr 3, .arr 181, .int .i64]]
def laws_FnCaught_6_emb (c : List Int × SChart × List SUpdate) (x : Int × SChart) : EVs T laws_FnCaught_6_sv × EOs T laws_FnCaught_6_so := ((c.1, (), (), (), x.1, ()), ((c.2.1.Wide, c.2.1.High, c.2.1.Depths, c.2.1.Features, c.2.1.Edition, ()), c.2.2, (x.2.Wide, x.2.High, x.2.Depths, x.2.Features, x.2.Edition, ()), ()))
def laws_FnCaught_6_prj (y : EVs T laws_FnCaught_6_sv × EOs T laws_FnCaught_6_so) : (List Int × SChart × List SUpdate) × (Int × SChart) := ((y.1.1, ((⟨y.2.1.1, y.2.1.2.1, y.2.1.2.2.1, y.2.1.2.2.2.1, y.2.1.2.2.2.2.1⟩ : SChart) : SChart), y.2.2.1), (y.1.2.2.2.2.1, ((⟨y.2.2.2.1.1, y.2.2.2.1.2.1, y.2.2.2.1.2.2.1, y.2.2.2.1.2.2.2.1, y.2.2.2.1.2.2.2.2.1⟩ : SChart) : SChart)))
def laws_FnCaught_6_b (n : Nat) {R : Type} (K : Ex → Sm.St T → Option R) (c : List Int × SChart × List SUpdate) (x : Int × SChart) (J : (Int × SChart) → Option R) : Option R :=
  laws_FnCaught_L6 n (fun (y3 : SChart) => K (.exit 0) (stOf (T := T) [0, 3, 4, 5] [24, 3000000, 40] [.one (.arr 5), .one (.ptr 24 0 0), .one (.own 3000000 85 false), .one (.ptr 40 0 0)] [.var [.int .i64, .int .i64, .arr 3, .arr 181, .int .i64], .arr 85 false, .var [.int .i64, .int .i64, .arr 3, .arr 181, .int .i64]] (c.1, (), (), (), ()) ((c.2.1.Wide, c.2.1.High, c.2.1.Depths, c.2.1.Features, c.2.1.Edition, ()), c.2.2, (y3.Wide, y3.High, y3.Depths, y3.Features, y3.Edition, ()), ()))) (fun (y0 : Bool) => K .ret (stOf (T := T) [2] [] [.one (.bool)] [] (y0, ()) ())) (fun z0 z1 => J (z0, z1)) c.1 x.1 c.2.1 c.2.2 x.2
def laws_FnCaught_6_sp (n : Nat) : LSpec T := mkSpec T ⟨[((.cell 24 2), 3, 999999), ((.cell 24 3), 181, 999999), ((.cell 40 2), 3, 999999), ((.cell 40 3), 181, 999999), ((.reg 4), 3000000, 85)], [0, 3, 4, 5, 6], [24, 3000000, 40]⟩ laws_FnCaught_6_sv laws_FnCaught_6_so (List Int × SChart × List SUpdate) (Int × SChart) laws_FnCaught_6_emb laws_FnCaught_6_prj (laws_FnCaught_6_b n)
noncomputable def laws_FnCaught_6_c : Code := ((loopCodes laws_FnCaught_code)[0]?).getD .skip
def laws_FnCaught_14_sv : List Sv := [.one (.arr 5), .one (.ptr 24 0 0), .one (.arr 85), .one (.ptr 40 0 0), .one (.own 3000001 85 false), .one (.int .i64)]
def laws_FnCaught_14_so : List So := [.var [.int .i64, .int .i64, .arr 3, .arr 181, .int .i64], .var [.int .i64, .int .i64, .arr 3, .arr 181, .int .i64], .arrS 85]
def laws_FnCaught_14_emb (c : List Int × List SUpdate × SChart × SChart) (x : Int × List SUpdate) : EVs T laws_FnCaught_14_sv × EOs T laws_FnCaught_14_so := ((c.1, (), c.2.1, (), (), x.1, ()), ((c.2.2.1.Wide, c.2.2.1.High, c.2.2.1.Depths, c.2.2.1.Features, c.2.2.1.Edition, ()), (c.2.2.2.Wide, c.2.2.2.High, c.2.2.2.Depths, c.2.2.2.Features, c.2.2.2.Edition, ()), x.2, ()))
def laws_FnCaught_14_prj (y : EVs T laws_FnCaught_14_sv × EOs T laws_FnCaught_14_so) : (List Int × List SUpdate × SChart × SChart) × (Int × List SUpdate) := ((y.1.1, y.1.2.2.1, ((⟨y.2.1.1, y.2.1.2.1, y.2.1.2.2.1, y.2.1.2.2.2.1, y.2.1.2.2.2.2.1⟩ : SChart) : SChart), ((⟨y.2.2.1.1, y.2.2.1.2.1, y.2.2.1.2.2.1, y.2.2.1.2.2.2.1, y.2.2.1.2.2.2.2.1⟩ : SChart) : SChart)), (y.1.2.2.2.2.2.1, y.2.2.2.1))
def laws_FnCaught_14_b (n : Nat) {R : Type} (K : Ex → Sm.St T → Option R) (c : List Int × List SUpdate × SChart × SChart) (x : Int × List SUpdate) (J : (Int × List SUpdate) → Option R) : Option R :=
  laws_FnCaught_L14 n (fun (y4 : List SUpdate) => K (.exit 2) (stOf (T := T) [0, 3, 4, 5, 9] [24, 40, 3000001] [.one (.arr 5), .one (.ptr 24 0 0), .one (.arr 85), .one (.ptr 40 0 0), .one (.own 3000001 85 false)] [.var [.int .i64, .int .i64, .arr 3, .arr 181, .int .i64], .var [.int .i64, .int .i64, .arr 3, .arr 181, .int .i64], .arrS 85] (c.1, (), c.2.1, (), (), ()) ((c.2.2.1.Wide, c.2.2.1.High, c.2.2.1.Depths, c.2.2.1.Features, c.2.2.1.Edition, ()), (c.2.2.2.Wide, c.2.2.2.High, c.2.2.2.Depths, c.2.2.2.Features, c.2.2.2.Edition, ()), y4, ()))) (fun z0 z1 => J (z0, z1)) c.1 c.2.1 x.1 c.2.2.1 c.2.2.2 x.2
def laws_FnCaught_14_sp (n : Nat) : LSpec T := mkSpec T ⟨[((.reg 4), 85, 999999), ((.reg 9), 3000001, 85), ((.reg 9), 0, 999998)], [0, 3, 4, 5, 9, 10], [24, 40, 3000001]⟩ laws_FnCaught_14_sv laws_FnCaught_14_so (List Int × List SUpdate × SChart × SChart) (Int × List SUpdate) laws_FnCaught_14_emb laws_FnCaught_14_prj (laws_FnCaught_14_b n)
noncomputable def laws_FnCaught_14_c : Code := ((loopCodes laws_FnCaught_code)[1]?).getD .skip
def laws_FnCaught_ann : Ann := fun id => bif Nat.beq id 3000006 then some ⟨[((.reg 4), 3000000, 85)], [0, 3, 4, 5], [24, 3000000, 40]⟩ else bif Nat.beq id 2000006 then some ⟨[], [2], []⟩ else bif Nat.beq id 5000014 then some ⟨[((.reg 9), 3000001, 85)], [0, 3, 4, 5, 9], [24, 40, 3000001]⟩ else none
def laws_FnCaught_Ls (n : Nat) : Nat → Option (LSpec T) := fun id => bif Nat.beq id 6 then some (laws_FnCaught_6_sp n) else bif Nat.beq id 14 then some (laws_FnCaught_14_sp n) else none
theorem laws_FnCaught_6_le (n : Nat) : LoopEq (T := T) (Phi n 30) (laws_FnCaught_Ls n) laws_FnCaught_ann n laws_FnCaught_6_c (laws_FnCaught_6_sp n) := ⟨mkSpec_dec (fun y => rfl), fun c x => by kernel_rfl, fun K J c x => by kernel_rfl⟩
theorem laws_FnCaught_14_le (n : Nat) : LoopEq (T := T) (Phi n 30) (laws_FnCaught_Ls n) laws_FnCaught_ann n laws_FnCaught_14_c (laws_FnCaught_14_sp n) := ⟨mkSpec_dec (fun y => rfl), fun c x => by kernel_rfl, fun K J c x => by kernel_rfl⟩
theorem laws_FnCaught_tie (n : Nat) (code0 : List Int) : evF (T := T) (Phi n 30) (laws_FnCaught_Ls n) laws_FnCaught_ann n Try.f10 (sg 10) [vA T 22 code0] laws_FnCaught_dec = laws_FnCaught n code0 := by kernel_rfl
theorem laws_FnCaught_lo (n : Nat) : LoopsOk (T := T) (Phi n 30) (laws_FnCaught_Ls n) laws_FnCaught_ann n laws_FnCaught_code := loopsOk_all (cs := [laws_FnCaught_6_c, laws_FnCaught_14_c]) (by kernel_rfl) ⟨⟨_, by kernel_rfl, laws_FnCaught_6_le n⟩, ⟨_, by kernel_rfl, laws_FnCaught_14_le n⟩, trivial⟩
theorem laws_FnCaught_ok (n : Nat) : EntOk Try.prog (ents n) (laws_FnCaught_ent n) := by
  intro hs ar y hg h
  replace h : laws_FnCaught_D n ar = some y := h
  unfold laws_FnCaught_D at h
  replace h := ocons_some h
  obtain ⟨a0, r0, rfl, h⟩ := h
  replace h := onil_some h
  obtain ⟨rfl, h⟩ := h
  obtain ⟨code0, qh0, h⟩ := obind_some h
  rw [argV_eq ok qh0]
  exact call_of (phiE_nat _ _) hs ok mixed Try.func10 (c := laws_FnCaught_code) (by kernel_rfl) (laws_FnCaught_lo n) (by kernel_rfl) (by kernel_rfl) (by kernel_rfl) laws_FnCaught_de ((laws_FnCaught_tie n code0).trans h)
theorem entsOk (n : Nat) : EntsOk Try.prog (ents n) (ents n) := ⟨laws_big_ok n, spec_l1New_ok n, spec_l1Byte_ok n, spec_l1Below_ok n, spec_l1Pick_ok n, spec_l6Draw_ok n, spec_DrawEditions_ok n, impl_own_int_ok n, impl_own_impl_Feature_ok n, impl_Chart_own_ok n, impl_in_ok n, impl_all_1_ok n, slices_IndexFunc_int_int__impl_all_1_ok n, slices_ContainsFunc_int_int__impl_all_1_ok n, impl_all_ok n, impl_Chart_place_ok n, impl_Chart_featureOk_ok n, impl_ChartOk_ok n, impl_Chart_note_1_ok n, slices_IndexFunc_impl_Feature_impl_Feature__impl_Chart_note_1_ok n, impl_Chart_note_2_ok n, slices_SortFunc_impl_Feature_impl_Feature__impl_Chart_note_2_ok n, slices_Delete_impl_Feature_impl_Feature_ok n, impl_depthOk_ok n, impl_Chart_note_ok n, impl_Apply6_ok n, laws_at_ok n, impl_Catch_ok n, laws_sameInts_ok n, impl_DepthAt_ok n, laws_FnCaught_ok n, trivial⟩
theorem sem (n i : Nat) : SemOk (Phi n i) (CallOk Try.prog T) := phiE_ok (entsOk n) i
end Go.Sm.B10
