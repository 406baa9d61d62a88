import Derived.Test.YtjilmfkglikoeaaB6Tb
import Derived.Test.YtjilmfkglikoeaaEngE
import Derived.Test.YtjilmfkglikoeaaLay
import Derived.KernelRfl
/- Each function's code computes what the plain function computes. -/
set_option linter.unusedSimpArgs false
set_option linter.deprecated false
set_option linter.unusedSectionVars false
set_option linter.unusedVariables false
set_option maxRecDepth 100000
open Go Go.Proofs
noncomputable section
namespace Go.Sm.B6
/-- By recursors, and of a greater height than all of the functions: the kernel takes these apart first. -/
def obind {α β : Type} (o : Option α) (f : α → Option β) : Option β := let _ := @laws_FnShoals; Option.rec (motive := fun _ => Option β) none (fun a => f a) o
theorem obind_some {α β : Type} {o : Option α} {f : α → Option β} {y : β} (h : obind o f = some y) : ∃ a, o = some a ∧ f a = some y := by
  cases o with
  | none => cases h
  | some a => exact ⟨a, rfl, h⟩
def ocons {β : Type} (l : List (A T)) (f : A T → List (A T) → Option β) : Option β := let _ := @laws_FnShoals; List.rec (motive := fun _ => Option β) none (fun a r _ => f a r) l
theorem ocons_some {β : Type} {l : List (A T)} {f : A T → List (A T) → Option β} {y : β} (h : ocons l f = some y) : ∃ a r, l = a :: r ∧ f a r = some y := by
  cases l with
  | nil => cases h
  | cons a r => exact ⟨a, r, rfl, h⟩
def onil {β : Type} (l : List (A T)) (x : Option β) : Option β := let _ := @laws_FnShoals; List.rec (motive := fun _ => Option β) x (fun _ _ _ => none) l
theorem onil_some {β : Type} {l : List (A T)} {x : Option β} {y : β} (h : onil l x = some y) : l = [] ∧ x = some y := by
  cases l with
  | nil => exact ⟨rfl, h⟩
  | cons a r => cases h
def laws_big_dec (res : Res T) : Option Bool := match res.rets, res.outs with
  | [a0], [] => (retV (T := T) 4 a0).bind fun r0 => some (r0)
  | _, _ => none
def laws_big_enc (y : Bool) : Res T := ⟨[vR T 4 y], []⟩
theorem laws_big_de (res : Res T) (y : Bool) (h : laws_big_dec res = some y) : res = laws_big_enc y := by
  obtain ⟨rets, outs⟩ := res
  unfold laws_big_dec at h
  dsimp only at h
  split at h
  · obtain ⟨r0, h0, h⟩ := Option.bind_eq_some_iff.1 h
    cases h
    rw [retV_eq ok h0]
    rfl
  · cases h
def spec_l1New_dec (res : Res T) : Option Sl1Cur := match res.rets, res.outs with
  | [a0], [] => (retP (T := T) 239 a0).bind fun r0 => some (r0)
  | _, _ => none
def spec_l1New_enc (y : Sl1Cur) : Res T := ⟨[.ptr 239 y], []⟩
theorem spec_l1New_de (res : Res T) (y : Sl1Cur) (h : spec_l1New_dec res = some y) : res = spec_l1New_enc y := by
  obtain ⟨rets, outs⟩ := res
  unfold spec_l1New_dec at h
  dsimp only at h
  split at h
  · obtain ⟨r0, h0, h⟩ := Option.bind_eq_some_iff.1 h
    cases h
    rw [retP_eq h0]
    rfl
  · cases h
def spec_l1Byte_dec (res : Res T) : Option (Int × Sl1Cur) := match res.rets, res.outs with
  | [a0], [b0] => (retV (T := T) 3 a0).bind fun r0 => (outV (T := T) 239 b0).bind fun r1 => some (r0, r1)
  | _, _ => none
def spec_l1Byte_enc (y : Int × Sl1Cur) : Res T := ⟨[vR T 3 y.1], [.var 239 y.2]⟩
theorem spec_l1Byte_de (res : Res T) (y : Int × Sl1Cur) (h : spec_l1Byte_dec res = some y) : res = spec_l1Byte_enc y := by
  obtain ⟨rets, outs⟩ := res
  unfold spec_l1Byte_dec at h
  dsimp only at h
  split at h
  · obtain ⟨r0, h0, h⟩ := Option.bind_eq_some_iff.1 h
    obtain ⟨r1, h1, h⟩ := Option.bind_eq_some_iff.1 h
    cases h
    rw [retV_eq ok h0, outV_eq h1]
    rfl
  · cases h
def spec_l1Below_dec (res : Res T) : Option (Int × Sl1Cur) := match res.rets, res.outs with
  | [a0], [b0] => (retV (T := T) 3 a0).bind fun r0 => (outV (T := T) 239 b0).bind fun r1 => some (r0, r1)
  | _, _ => none
def spec_l1Below_enc (y : Int × Sl1Cur) : Res T := ⟨[vR T 3 y.1], [.var 239 y.2]⟩
theorem spec_l1Below_de (res : Res T) (y : Int × Sl1Cur) (h : spec_l1Below_dec res = some y) : res = spec_l1Below_enc y := by
  obtain ⟨rets, outs⟩ := res
  unfold spec_l1Below_dec at h
  dsimp only at h
  split at h
  · obtain ⟨r0, h0, h⟩ := Option.bind_eq_some_iff.1 h
    obtain ⟨r1, h1, h⟩ := Option.bind_eq_some_iff.1 h
    cases h
    rw [retV_eq ok h0, outV_eq h1]
    rfl
  · cases h
def spec_l1Pick_dec (res : Res T) : Option (ByteArray × Sl1Cur) := match res.rets, res.outs with
  | [a0], [b0] => (retV (T := T) 9 a0).bind fun r0 => (outV (T := T) 239 b0).bind fun r1 => some (r0, r1)
  | _, _ => none
def spec_l1Pick_enc (y : ByteArray × Sl1Cur) : Res T := ⟨[vR T 9 y.1], [.var 239 y.2]⟩
theorem spec_l1Pick_de (res : Res T) (y : ByteArray × Sl1Cur) (h : spec_l1Pick_dec res = some y) : res = spec_l1Pick_enc y := by
  obtain ⟨rets, outs⟩ := res
  unfold spec_l1Pick_dec at h
  dsimp only at h
  split at h
  · obtain ⟨r0, h0, h⟩ := Option.bind_eq_some_iff.1 h
    obtain ⟨r1, h1, h⟩ := Option.bind_eq_some_iff.1 h
    cases h
    rw [retV_eq ok h0, outV_eq h1]
    rfl
  · cases h
def spec_l6Draw_dec (res : Res T) : Option (SChart × Sl1Cur) := match res.rets, res.outs with
  | [a0], [b0] => (retV (T := T) 63 a0).bind fun r0 => (outV (T := T) 239 b0).bind fun r1 => some (r0, r1)
  | _, _ => none
def spec_l6Draw_enc (y : SChart × Sl1Cur) : Res T := ⟨[vR T 63 y.1], [.var 239 y.2]⟩
theorem spec_l6Draw_de (res : Res T) (y : SChart × Sl1Cur) (h : spec_l6Draw_dec res = some y) : res = spec_l6Draw_enc y := by
  obtain ⟨rets, outs⟩ := res
  unfold spec_l6Draw_dec at h
  dsimp only at h
  split at h
  · obtain ⟨r0, h0, h⟩ := Option.bind_eq_some_iff.1 h
    obtain ⟨r1, h1, h⟩ := Option.bind_eq_some_iff.1 h
    cases h
    rw [retV_eq ok h0, outV_eq h1]
    rfl
  · cases h
def spec_l1PickInt_dec (res : Res T) : Option (Int × Sl1Cur) := match res.rets, res.outs with
  | [a0], [b0] => (retV (T := T) 3 a0).bind fun r0 => (outV (T := T) 239 b0).bind fun r1 => some (r0, r1)
  | _, _ => none
def spec_l1PickInt_enc (y : Int × Sl1Cur) : Res T := ⟨[vR T 3 y.1], [.var 239 y.2]⟩
theorem spec_l1PickInt_de (res : Res T) (y : Int × Sl1Cur) (h : spec_l1PickInt_dec res = some y) : res = spec_l1PickInt_enc y := by
  obtain ⟨rets, outs⟩ := res
  unfold spec_l1PickInt_dec at h
  dsimp only at h
  split at h
  · obtain ⟨r0, h0, h⟩ := Option.bind_eq_some_iff.1 h
    obtain ⟨r1, h1, h⟩ := Option.bind_eq_some_iff.1 h
    cases h
    rw [retV_eq ok h0, outV_eq h1]
    rfl
  · cases h
def spec_l6DrawAny_dec (res : Res T) : Option (SChart × Sl1Cur) := match res.rets, res.outs with
  | [a0], [b0] => (retV (T := T) 63 a0).bind fun r0 => (outV (T := T) 239 b0).bind fun r1 => some (r0, r1)
  | _, _ => none
def spec_l6DrawAny_enc (y : SChart × Sl1Cur) : Res T := ⟨[vR T 63 y.1], [.var 239 y.2]⟩
theorem spec_l6DrawAny_de (res : Res T) (y : SChart × Sl1Cur) (h : spec_l6DrawAny_dec res = some y) : res = spec_l6DrawAny_enc y := by
  obtain ⟨rets, outs⟩ := res
  unfold spec_l6DrawAny_dec at h
  dsimp only at h
  split at h
  · obtain ⟨r0, h0, h⟩ := Option.bind_eq_some_iff.1 h
    obtain ⟨r1, h1, h⟩ := Option.bind_eq_some_iff.1 h
    cases h
    rw [retV_eq ok h0, outV_eq h1]
    rfl
  · cases h
def spec_DrawShoals_dec (res : Res T) : Option (SChart × Int) := match res.rets, res.outs with
  | [a0, a1], [] => (retV (T := T) 63 a0).bind fun r0 => (retV (T := T) 3 a1).bind fun r1 => some (r0, r1)
  | _, _ => none
def spec_DrawShoals_enc (y : SChart × Int) : Res T := ⟨[vR T 63 y.1, vR T 3 y.2], []⟩
theorem spec_DrawShoals_de (res : Res T) (y : SChart × Int) (h : spec_DrawShoals_dec res = some y) : res = spec_DrawShoals_enc y := by
  obtain ⟨rets, outs⟩ := res
  unfold spec_DrawShoals_dec at h
  dsimp only at h
  split at h
  · obtain ⟨r0, h0, h⟩ := Option.bind_eq_some_iff.1 h
    obtain ⟨r1, h1, h⟩ := Option.bind_eq_some_iff.1 h
    cases h
    rw [retV_eq ok h0, retV_eq ok h1]
    rfl
  · cases h
def spec_l1In_dec (res : Res T) : Option Bool := match res.rets, res.outs with
  | [a0], [] => (retV (T := T) 4 a0).bind fun r0 => some (r0)
  | _, _ => none
def spec_l1In_enc (y : Bool) : Res T := ⟨[vR T 4 y], []⟩
theorem spec_l1In_de (res : Res T) (y : Bool) (h : spec_l1In_dec res = some y) : res = spec_l1In_enc y := by
  obtain ⟨rets, outs⟩ := res
  unfold spec_l1In_dec at h
  dsimp only at h
  split at h
  · obtain ⟨r0, h0, h⟩ := Option.bind_eq_some_iff.1 h
    cases h
    rw [retV_eq ok h0]
    rfl
  · cases h
def spec_l6Depth_dec (res : Res T) : Option Bool := match res.rets, res.outs with
  | [a0], [] => (retV (T := T) 4 a0).bind fun r0 => some (r0)
  | _, _ => none
def spec_l6Depth_enc (y : Bool) : Res T := ⟨[vR T 4 y], []⟩
theorem spec_l6Depth_de (res : Res T) (y : Bool) (h : spec_l6Depth_dec res = some y) : res = spec_l6Depth_enc y := by
  obtain ⟨rets, outs⟩ := res
  unfold spec_l6Depth_dec at h
  dsimp only at h
  split at h
  · obtain ⟨r0, h0, h⟩ := Option.bind_eq_some_iff.1 h
    cases h
    rw [retV_eq ok h0]
    rfl
  · cases h
def spec_l6Place_dec (res : Res T) : Option Bool := match res.rets, res.outs with
  | [a0], [] => (retV (T := T) 4 a0).bind fun r0 => some (r0)
  | _, _ => none
def spec_l6Place_enc (y : Bool) : Res T := ⟨[vR T 4 y], []⟩
theorem spec_l6Place_de (res : Res T) (y : Bool) (h : spec_l6Place_dec res = some y) : res = spec_l6Place_enc y := by
  obtain ⟨rets, outs⟩ := res
  unfold spec_l6Place_dec at h
  dsimp only at h
  split at h
  · obtain ⟨r0, h0, h⟩ := Option.bind_eq_some_iff.1 h
    cases h
    rw [retV_eq ok h0]
    rfl
  · cases h
def spec_l6Feature_dec (res : Res T) : Option Bool := match res.rets, res.outs with
  | [a0], [] => (retV (T := T) 4 a0).bind fun r0 => some (r0)
  | _, _ => none
def spec_l6Feature_enc (y : Bool) : Res T := ⟨[vR T 4 y], []⟩
theorem spec_l6Feature_de (res : Res T) (y : Bool) (h : spec_l6Feature_dec res = some y) : res = spec_l6Feature_enc y := by
  obtain ⟨rets, outs⟩ := res
  unfold spec_l6Feature_dec at h
  dsimp only at h
  split at h
  · obtain ⟨r0, h0, h⟩ := Option.bind_eq_some_iff.1 h
    cases h
    rw [retV_eq ok h0]
    rfl
  · cases h
def spec_ChartOk_dec (res : Res T) : Option Bool := match res.rets, res.outs with
  | [a0], [] => (retV (T := T) 4 a0).bind fun r0 => some (r0)
  | _, _ => none
def spec_ChartOk_enc (y : Bool) : Res T := ⟨[vR T 4 y], []⟩
theorem spec_ChartOk_de (res : Res T) (y : Bool) (h : spec_ChartOk_dec res = some y) : res = spec_ChartOk_enc y := by
  obtain ⟨rets, outs⟩ := res
  unfold spec_ChartOk_dec at h
  dsimp only at h
  split at h
  · obtain ⟨r0, h0, h⟩ := Option.bind_eq_some_iff.1 h
    cases h
    rw [retV_eq ok h0]
    rfl
  · cases h
def impl_in_dec (res : Res T) : Option Bool := match res.rets, res.outs with
  | [a0], [] => (retV (T := T) 4 a0).bind fun r0 => some (r0)
  | _, _ => none
def impl_in_enc (y : Bool) : Res T := ⟨[vR T 4 y], []⟩
theorem impl_in_de (res : Res T) (y : Bool) (h : impl_in_dec res = some y) : res = impl_in_enc y := by
  obtain ⟨rets, outs⟩ := res
  unfold impl_in_dec at h
  dsimp only at h
  split at h
  · obtain ⟨r0, h0, h⟩ := Option.bind_eq_some_iff.1 h
    cases h
    rw [retV_eq ok h0]
    rfl
  · cases h
def impl_all_1_dec (res : Res T) : Option Bool := match res.rets, res.outs with
  | [a0], [] => (retV (T := T) 4 a0).bind fun r0 => some (r0)
  | _, _ => none
def impl_all_1_enc (y : Bool) : Res T := ⟨[vR T 4 y], []⟩
theorem impl_all_1_de (res : Res T) (y : Bool) (h : impl_all_1_dec res = some y) : res = impl_all_1_enc y := by
  obtain ⟨rets, outs⟩ := res
  unfold impl_all_1_dec at h
  dsimp only at h
  split at h
  · obtain ⟨r0, h0, h⟩ := Option.bind_eq_some_iff.1 h
    cases h
    rw [retV_eq ok h0]
    rfl
  · cases h
def slices_IndexFunc_int_int__impl_all_1_dec (res : Res T) : Option Int := match res.rets, res.outs with
  | [a0], [] => (retV (T := T) 3 a0).bind fun r0 => some (r0)
  | _, _ => none
def slices_IndexFunc_int_int__impl_all_1_enc (y : Int) : Res T := ⟨[vR T 3 y], []⟩
theorem slices_IndexFunc_int_int__impl_all_1_de (res : Res T) (y : Int) (h : slices_IndexFunc_int_int__impl_all_1_dec res = some y) : res = slices_IndexFunc_int_int__impl_all_1_enc y := by
  obtain ⟨rets, outs⟩ := res
  unfold slices_IndexFunc_int_int__impl_all_1_dec at h
  dsimp only at h
  split at h
  · obtain ⟨r0, h0, h⟩ := Option.bind_eq_some_iff.1 h
    cases h
    rw [retV_eq ok h0]
    rfl
  · cases h
def slices_ContainsFunc_int_int__impl_all_1_dec (res : Res T) : Option Bool := match res.rets, res.outs with
  | [a0], [] => (retV (T := T) 4 a0).bind fun r0 => some (r0)
  | _, _ => none
def slices_ContainsFunc_int_int__impl_all_1_enc (y : Bool) : Res T := ⟨[vR T 4 y], []⟩
theorem slices_ContainsFunc_int_int__impl_all_1_de (res : Res T) (y : Bool) (h : slices_ContainsFunc_int_int__impl_all_1_dec res = some y) : res = slices_ContainsFunc_int_int__impl_all_1_enc y := by
  obtain ⟨rets, outs⟩ := res
  unfold slices_ContainsFunc_int_int__impl_all_1_dec at h
  dsimp only at h
  split at h
  · obtain ⟨r0, h0, h⟩ := Option.bind_eq_some_iff.1 h
    cases h
    rw [retV_eq ok h0]
    rfl
  · cases h
def impl_all_dec (res : Res T) : Option Bool := match res.rets, res.outs with
  | [a0], [] => (retV (T := T) 4 a0).bind fun r0 => some (r0)
  | _, _ => none
def impl_all_enc (y : Bool) : Res T := ⟨[vR T 4 y], []⟩
theorem impl_all_de (res : Res T) (y : Bool) (h : impl_all_dec res = some y) : res = impl_all_enc y := by
  obtain ⟨rets, outs⟩ := res
  unfold impl_all_dec at h
  dsimp only at h
  split at h
  · obtain ⟨r0, h0, h⟩ := Option.bind_eq_some_iff.1 h
    cases h
    rw [retV_eq ok h0]
    rfl
  · cases h
def impl_Chart_place_dec (res : Res T) : Option Bool := match res.rets, res.outs with
  | [a0], [] => (retV (T := T) 4 a0).bind fun r0 => some (r0)
  | _, _ => none
def impl_Chart_place_enc (y : Bool) : Res T := ⟨[vR T 4 y], []⟩
theorem impl_Chart_place_de (res : Res T) (y : Bool) (h : impl_Chart_place_dec res = some y) : res = impl_Chart_place_enc y := by
  obtain ⟨rets, outs⟩ := res
  unfold impl_Chart_place_dec at h
  dsimp only at h
  split at h
  · obtain ⟨r0, h0, h⟩ := Option.bind_eq_some_iff.1 h
    cases h
    rw [retV_eq ok h0]
    rfl
  · cases h
def impl_Chart_featureOk_dec (res : Res T) : Option Bool := match res.rets, res.outs with
  | [a0], [] => (retV (T := T) 4 a0).bind fun r0 => some (r0)
  | _, _ => none
def impl_Chart_featureOk_enc (y : Bool) : Res T := ⟨[vR T 4 y], []⟩
theorem impl_Chart_featureOk_de (res : Res T) (y : Bool) (h : impl_Chart_featureOk_dec res = some y) : res = impl_Chart_featureOk_enc y := by
  obtain ⟨rets, outs⟩ := res
  unfold impl_Chart_featureOk_dec at h
  dsimp only at h
  split at h
  · obtain ⟨r0, h0, h⟩ := Option.bind_eq_some_iff.1 h
    cases h
    rw [retV_eq ok h0]
    rfl
  · cases h
def impl_ChartOk_dec (res : Res T) : Option Bool := match res.rets, res.outs with
  | [a0], [] => (retV (T := T) 4 a0).bind fun r0 => some (r0)
  | _, _ => none
def impl_ChartOk_enc (y : Bool) : Res T := ⟨[vR T 4 y], []⟩
theorem impl_ChartOk_de (res : Res T) (y : Bool) (h : impl_ChartOk_dec res = some y) : res = impl_ChartOk_enc y := by
  obtain ⟨rets, outs⟩ := res
  unfold impl_ChartOk_dec at h
  dsimp only at h
  split at h
  · obtain ⟨r0, h0, h⟩ := Option.bind_eq_some_iff.1 h
    cases h
    rw [retV_eq ok h0]
    rfl
  · cases h
def impl_own_int_dec (res : Res T) : Option (List Int) := match res.rets, res.outs with
  | [a0], [] => (retV (T := T) 55 a0).bind fun r0 => some (r0)
  | _, _ => none
def impl_own_int_enc (y : List Int) : Res T := ⟨[vR T 55 y], []⟩
theorem impl_own_int_de (res : Res T) (y : List Int) (h : impl_own_int_dec res = some y) : res = impl_own_int_enc y := by
  obtain ⟨rets, outs⟩ := res
  unfold impl_own_int_dec at h
  dsimp only at h
  split at h
  · obtain ⟨r0, h0, h⟩ := Option.bind_eq_some_iff.1 h
    cases h
    rw [retV_eq ok h0]
    rfl
  · cases h
def impl_Shoals_dec (res : Res T) : Option (List Int) := match res.rets, res.outs with
  | [a0], [] => (retV (T := T) 55 a0).bind fun r0 => some (r0)
  | _, _ => none
def impl_Shoals_enc (y : List Int) : Res T := ⟨[vR T 55 y], []⟩
theorem impl_Shoals_de (res : Res T) (y : List Int) (h : impl_Shoals_dec res = some y) : res = impl_Shoals_enc y := by
  obtain ⟨rets, outs⟩ := res
  unfold impl_Shoals_dec at h
  dsimp only at h
  split at h
  · obtain ⟨r0, h0, h⟩ := Option.bind_eq_some_iff.1 h
    cases h
    rw [retV_eq ok h0]
    rfl
  · cases h
def impl_DepthAt_dec (res : Res T) : Option (Int × Bool) := match res.rets, res.outs with
  | [a0, a1], [] => (retV (T := T) 3 a0).bind fun r0 => (retV (T := T) 4 a1).bind fun r1 => some (r0, r1)
  | _, _ => none
def impl_DepthAt_enc (y : Int × Bool) : Res T := ⟨[vR T 3 y.1, vR T 4 y.2], []⟩
theorem impl_DepthAt_de (res : Res T) (y : Int × Bool) (h : impl_DepthAt_dec res = some y) : res = impl_DepthAt_enc y := by
  obtain ⟨rets, outs⟩ := res
  unfold impl_DepthAt_dec at h
  dsimp only at h
  split at h
  · obtain ⟨r0, h0, h⟩ := Option.bind_eq_some_iff.1 h
    obtain ⟨r1, h1, h⟩ := Option.bind_eq_some_iff.1 h
    cases h
    rw [retV_eq ok h0, retV_eq ok h1]
    rfl
  · cases h
def laws_within_dec (res : Res T) : Option Bool := match res.rets, res.outs with
  | [a0], [] => (retV (T := T) 4 a0).bind fun r0 => some (r0)
  | _, _ => none
def laws_within_enc (y : Bool) : Res T := ⟨[vR T 4 y], []⟩
theorem laws_within_de (res : Res T) (y : Bool) (h : laws_within_dec res = some y) : res = laws_within_enc y := by
  obtain ⟨rets, outs⟩ := res
  unfold laws_within_dec at h
  dsimp only at h
  split at h
  · obtain ⟨r0, h0, h⟩ := Option.bind_eq_some_iff.1 h
    cases h
    rw [retV_eq ok h0]
    rfl
  · cases h
def impl_size_dec (res : Res T) : Option Int := match res.rets, res.outs with
  | [a0], [] => (retV (T := T) 3 a0).bind fun r0 => some (r0)
  | _, _ => none
def impl_size_enc (y : Int) : Res T := ⟨[vR T 3 y], []⟩
theorem impl_size_de (res : Res T) (y : Int) (h : impl_size_dec res = some y) : res = impl_size_enc y := by
  obtain ⟨rets, outs⟩ := res
  unfold impl_size_dec at h
  dsimp only at h
  split at h
  · obtain ⟨r0, h0, h⟩ := Option.bind_eq_some_iff.1 h
    cases h
    rw [retV_eq ok h0]
    rfl
  · cases h
def cmp_isNaN_int_dec (res : Res T) : Option Bool := match res.rets, res.outs with
  | [a0], [] => (retV (T := T) 4 a0).bind fun r0 => some (r0)
  | _, _ => none
def cmp_isNaN_int_enc (y : Bool) : Res T := ⟨[vR T 4 y], []⟩
theorem cmp_isNaN_int_de (res : Res T) (y : Bool) (h : cmp_isNaN_int_dec res = some y) : res = cmp_isNaN_int_enc y := by
  obtain ⟨rets, outs⟩ := res
  unfold cmp_isNaN_int_dec at h
  dsimp only at h
  split at h
  · obtain ⟨r0, h0, h⟩ := Option.bind_eq_some_iff.1 h
    cases h
    rw [retV_eq ok h0]
    rfl
  · cases h
def cmp_Compare_int_dec (res : Res T) : Option Int := match res.rets, res.outs with
  | [a0], [] => (retV (T := T) 3 a0).bind fun r0 => some (r0)
  | _, _ => none
def cmp_Compare_int_enc (y : Int) : Res T := ⟨[vR T 3 y], []⟩
theorem cmp_Compare_int_de (res : Res T) (y : Int) (h : cmp_Compare_int_dec res = some y) : res = cmp_Compare_int_enc y := by
  obtain ⟨rets, outs⟩ := res
  unfold cmp_Compare_int_dec at h
  dsimp only at h
  split at h
  · obtain ⟨r0, h0, h⟩ := Option.bind_eq_some_iff.1 h
    cases h
    rw [retV_eq ok h0]
    rfl
  · cases h
def slices_Compare_int_int_dec (res : Res T) : Option Int := match res.rets, res.outs with
  | [a0], [] => (retV (T := T) 3 a0).bind fun r0 => some (r0)
  | _, _ => none
def slices_Compare_int_int_enc (y : Int) : Res T := ⟨[vR T 3 y], []⟩
theorem slices_Compare_int_int_de (res : Res T) (y : Int) (h : slices_Compare_int_int_dec res = some y) : res = slices_Compare_int_int_enc y := by
  obtain ⟨rets, outs⟩ := res
  unfold slices_Compare_int_int_dec at h
  dsimp only at h
  split at h
  · obtain ⟨r0, h0, h⟩ := Option.bind_eq_some_iff.1 h
    cases h
    rw [retV_eq ok h0]
    rfl
  · cases h
def impl_Near6_1_dec (res : Res T) : Option Int := match res.rets, res.outs with
  | [a0], [] => (retV (T := T) 3 a0).bind fun r0 => some (r0)
  | _, _ => none
def impl_Near6_1_enc (y : Int) : Res T := ⟨[vR T 3 y], []⟩
theorem impl_Near6_1_de (res : Res T) (y : Int) (h : impl_Near6_1_dec res = some y) : res = impl_Near6_1_enc y := by
  obtain ⟨rets, outs⟩ := res
  unfold impl_Near6_1_dec at h
  dsimp only at h
  split at h
  · obtain ⟨r0, h0, h⟩ := Option.bind_eq_some_iff.1 h
    cases h
    rw [retV_eq ok h0]
    rfl
  · cases h
def slices_SortFunc_2_int_2_int__impl_Near6_1_dec (res : Res T) : Option (List SArr2_Int) := match res.rets, res.outs with
  | [], [b0] => (outS (T := T) 186 b0).bind fun r0 => some (r0)
  | _, _ => none
def slices_SortFunc_2_int_2_int__impl_Near6_1_enc (y : List SArr2_Int) : Res T := ⟨[], [.sl 186 y]⟩
theorem slices_SortFunc_2_int_2_int__impl_Near6_1_de (res : Res T) (y : List SArr2_Int) (h : slices_SortFunc_2_int_2_int__impl_Near6_1_dec res = some y) : res = slices_SortFunc_2_int_2_int__impl_Near6_1_enc y := by
  obtain ⟨rets, outs⟩ := res
  unfold slices_SortFunc_2_int_2_int__impl_Near6_1_dec at h
  dsimp only at h
  split at h
  · obtain ⟨r0, h0, h⟩ := Option.bind_eq_some_iff.1 h
    cases h
    rw [outS_eq h0]
    rfl
  · cases h
def impl_Near6_dec (res : Res T) : Option (List Int) := match res.rets, res.outs with
  | [a0], [] => (retV (T := T) 55 a0).bind fun r0 => some (r0)
  | _, _ => none
def impl_Near6_enc (y : List Int) : Res T := ⟨[vR T 55 y], []⟩
theorem impl_Near6_de (res : Res T) (y : List Int) (h : impl_Near6_dec res = some y) : res = impl_Near6_enc y := by
  obtain ⟨rets, outs⟩ := res
  unfold impl_Near6_dec at h
  dsimp only at h
  split at h
  · obtain ⟨r0, h0, h⟩ := Option.bind_eq_some_iff.1 h
    cases h
    rw [retV_eq ok h0]
    rfl
  · cases h
def laws_FnShoals_dec (res : Res T) : Option Bool := match res.rets, res.outs with
  | [a0], [] => (retV (T := T) 4 a0).bind fun r0 => some (r0)
  | _, _ => none
def laws_FnShoals_enc (y : Bool) : Res T := ⟨[vR T 4 y], []⟩
theorem laws_FnShoals_de (res : Res T) (y : Bool) (h : laws_FnShoals_dec res = some y) : res = laws_FnShoals_enc y := by
  obtain ⟨rets, outs⟩ := res
  unfold laws_FnShoals_dec at h
  dsimp only at h
  split at h
  · obtain ⟨r0, h0, h⟩ := Option.bind_eq_some_iff.1 h
    cases h
    rw [retV_eq ok h0]
    rfl
  · cases h
def laws_big_D (n : Nat) (r0 : List (A T)) : Option Bool := ocons r0 fun a0 r1 => onil r1 (obind (argV (T := T) 22 a0) fun code0 => laws_big n code0)
def laws_big_ent (n : Nat) : Ent T := ⟨15, 0, [], Bool, laws_big_D n, laws_big_enc⟩
def spec_l1New_D (n : Nat) (r0 : List (A T)) : Option Sl1Cur := ocons r0 fun a0 r1 => onil r1 (obind (argV (T := T) 22 a0) fun code0 => spec_l1New n code0)
def spec_l1New_ent (n : Nat) : Ent T := ⟨87, 1, [], Sl1Cur, spec_l1New_D n, spec_l1New_enc⟩
def spec_l1Byte_D (n : Nat) (r0 : List (A T)) : Option (Int × Sl1Cur) := ocons r0 fun a0 r1 => onil r1 (obind (argP (T := T) 239 a0) fun c0 => spec_l1Byte n c0)
def spec_l1Byte_ent (n : Nat) : Ent T := ⟨176, 2, [], Int × Sl1Cur, spec_l1Byte_D n, spec_l1Byte_enc⟩
def spec_l1Below_D (n : Nat) (r0 : List (A T)) : Option (Int × Sl1Cur) := ocons r0 fun a0 r1 => ocons r1 fun a1 r2 => onil r2 (obind (argP (T := T) 239 a0) fun c0 => obind (argV (T := T) 3 a1) fun n1 => spec_l1Below n c0 n1)
def spec_l1Below_ent (n : Nat) : Ent T := ⟨89, 3, [], Int × Sl1Cur, spec_l1Below_D n, spec_l1Below_enc⟩
def spec_l1Pick_D (n : Nat) (r0 : List (A T)) : Option (ByteArray × Sl1Cur) := ocons r0 fun a0 r1 => ocons r1 fun a1 r2 => onil r2 (obind (argP (T := T) 239 a0) fun c0 => obind (argV (T := T) 270 a1) fun list1 => spec_l1Pick n c0 list1)
def spec_l1Pick_ent (n : Nat) : Ent T := ⟨211, 4, [], ByteArray × Sl1Cur, spec_l1Pick_D n, spec_l1Pick_enc⟩
def spec_l6Draw_D (n : Nat) (r0 : List (A T)) : Option (SChart × Sl1Cur) := ocons r0 fun a0 r1 => onil r1 (obind (argP (T := T) 239 a0) fun c0 => spec_l6Draw n c0)
def spec_l6Draw_ent (n : Nat) : Ent T := ⟨138, 5, [], SChart × Sl1Cur, spec_l6Draw_D n, spec_l6Draw_enc⟩
def spec_l1PickInt_D (n : Nat) (r0 : List (A T)) : Option (Int × Sl1Cur) := ocons r0 fun a0 r1 => ocons r1 fun a1 r2 => onil r2 (obind (argP (T := T) 239 a0) fun c0 => obind (argV (T := T) 55 a1) fun list1 => spec_l1PickInt n c0 list1)
def spec_l1PickInt_ent (n : Nat) : Ent T := ⟨195, 6, [], Int × Sl1Cur, spec_l1PickInt_D n, spec_l1PickInt_enc⟩
def spec_l6DrawAny_D (n : Nat) (r0 : List (A T)) : Option (SChart × Sl1Cur) := ocons r0 fun a0 r1 => onil r1 (obind (argP (T := T) 239 a0) fun c0 => spec_l6DrawAny n c0)
def spec_l6DrawAny_ent (n : Nat) : Ent T := ⟨116, 7, [], SChart × Sl1Cur, spec_l6DrawAny_D n, spec_l6DrawAny_enc⟩
def spec_DrawShoals_D (n : Nat) (r0 : List (A T)) : Option (SChart × Int) := ocons r0 fun a0 r1 => onil r1 (obind (argV (T := T) 22 a0) fun code0 => spec_DrawShoals n code0)
def spec_DrawShoals_ent (n : Nat) : Ent T := ⟨42, 8, [], SChart × Int, spec_DrawShoals_D n, spec_DrawShoals_enc⟩
def spec_l1In_D (n : Nat) (r0 : List (A T)) : Option Bool := ocons r0 fun a0 r1 => ocons r1 fun a1 r2 => ocons r2 fun a2 r3 => onil r3 (obind (argV (T := T) 3 a0) fun x0 => obind (argV (T := T) 3 a1) fun a1 => obind (argV (T := T) 3 a2) fun b2 => spec_l1In n x0 a1 b2)
def spec_l1In_ent (n : Nat) : Ent T := ⟨100, 9, [], Bool, spec_l1In_D n, spec_l1In_enc⟩
def spec_l6Depth_D (n : Nat) (r0 : List (A T)) : Option Bool := ocons r0 fun a0 r1 => onil r1 (obind (argV (T := T) 3 a0) fun d0 => spec_l6Depth n d0)
def spec_l6Depth_ent (n : Nat) : Ent T := ⟨117, 10, [], Bool, spec_l6Depth_D n, spec_l6Depth_enc⟩
def spec_l6Place_D (n : Nat) (r0 : List (A T)) : Option Bool := ocons r0 fun a0 r1 => ocons r1 fun a1 r2 => ocons r2 fun a2 r3 => onil r3 (obind (argV (T := T) 63 a0) fun c0 => obind (argV (T := T) 3 a1) fun x1 => obind (argV (T := T) 3 a2) fun y2 => spec_l6Place n c0 x1 y2)
def spec_l6Place_ent (n : Nat) : Ent T := ⟨127, 11, [], Bool, spec_l6Place_D n, spec_l6Place_enc⟩
def spec_l6Feature_D (n : Nat) (r0 : List (A T)) : Option Bool := ocons r0 fun a0 r1 => ocons r1 fun a1 r2 => onil r2 (obind (argV (T := T) 63 a0) fun c0 => obind (argV (T := T) 181 a1) fun f1 => spec_l6Feature n c0 f1)
def spec_l6Feature_ent (n : Nat) : Ent T := ⟨118, 12, [], Bool, spec_l6Feature_D n, spec_l6Feature_enc⟩
def spec_ChartOk_D (n : Nat) (r0 : List (A T)) : Option Bool := ocons r0 fun a0 r1 => onil r1 (obind (argV (T := T) 63 a0) fun c0 => spec_ChartOk n c0)
def spec_ChartOk_ent (n : Nat) : Ent T := ⟨43, 13, [], Bool, spec_ChartOk_D n, spec_ChartOk_enc⟩
def impl_in_D (n : Nat) (r0 : List (A T)) : Option Bool := ocons r0 fun a0 r1 => ocons r1 fun a1 r2 => ocons r2 fun a2 r3 => onil r3 (obind (argV (T := T) 3 a0) fun n0 => obind (argV (T := T) 3 a1) fun least1 => obind (argV (T := T) 3 a2) fun most2 => impl_in n n0 least1 most2)
def impl_in_ent (n : Nat) : Ent T := ⟨119, 14, [], Bool, impl_in_D n, impl_in_enc⟩
def impl_all_1_D (n : Nat) (r0 : List (A T)) : Option Bool := ocons r0 fun a0 r1 => ocons r1 fun a1 r2 => ocons r2 fun a2 r3 => onil r3 (obind (argV (T := T) 3 a0) fun n0 => obind (argP (T := T) 3 a1) fun a1 => obind (argP (T := T) 3 a2) fun a2 => impl_all_1 n n0 a1 a2)
def impl_all_1_ent (n : Nat) : Ent T := ⟨196, 15, [], Bool, impl_all_1_D n, impl_all_1_enc⟩
def slices_IndexFunc_int_int__impl_all_1_D (n : Nat) (ar : List (A T)) : Option Int := match ar with
  | [a0, .fn _ [k1_0, k1_1]] => obind (argV (T := T) 55 a0) fun s0 => obind (argP (T := T) 3 k1_0) fun f1c0 => obind (argP (T := T) 3 k1_1) fun f1c1 => slices_IndexFunc_int_int__impl_all_1 n s0 f1c0 f1c1
  | _ => none
def slices_IndexFunc_int_int__impl_all_1_ent (n : Nat) : Ent T := ⟨222, 16, [196], Int, slices_IndexFunc_int_int__impl_all_1_D n, slices_IndexFunc_int_int__impl_all_1_enc⟩
def slices_ContainsFunc_int_int__impl_all_1_D (n : Nat) (ar : List (A T)) : Option Bool := match ar with
  | [a0, .fn _ [k1_0, k1_1]] => obind (argV (T := T) 55 a0) fun s0 => obind (argP (T := T) 3 k1_0) fun f1c0 => obind (argP (T := T) 3 k1_1) fun f1c1 => slices_ContainsFunc_int_int__impl_all_1 n s0 f1c0 f1c1
  | _ => none
def slices_ContainsFunc_int_int__impl_all_1_ent (n : Nat) : Ent T := ⟨158, 17, [196], Bool, slices_ContainsFunc_int_int__impl_all_1_D n, slices_ContainsFunc_int_int__impl_all_1_enc⟩
def impl_all_D (n : Nat) (r0 : List (A T)) : Option Bool := ocons r0 fun a0 r1 => ocons r1 fun a1 r2 => ocons r2 fun a2 r3 => onil r3 (obind (argV (T := T) 55 a0) fun l0 => obind (argV (T := T) 3 a1) fun least1 => obind (argV (T := T) 3 a2) fun most2 => impl_all n l0 least1 most2)
def impl_all_ent (n : Nat) : Ent T := ⟨120, 18, [], Bool, impl_all_D n, impl_all_enc⟩
def impl_Chart_place_D (n : Nat) (r0 : List (A T)) : Option Bool := ocons r0 fun a0 r1 => ocons r1 fun a1 r2 => ocons r2 fun a2 r3 => onil r3 (obind (argV (T := T) 63 a0) fun c0 => obind (argV (T := T) 3 a1) fun x1 => obind (argV (T := T) 3 a2) fun y2 => impl_Chart_place n c0 x1 y2)
def impl_Chart_place_ent (n : Nat) : Ent T := ⟨122, 19, [], Bool, impl_Chart_place_D n, impl_Chart_place_enc⟩
def impl_Chart_featureOk_D (n : Nat) (r0 : List (A T)) : Option Bool := ocons r0 fun a0 r1 => ocons r1 fun a1 r2 => onil r2 (obind (argV (T := T) 63 a0) fun c0 => obind (argV (T := T) 181 a1) fun f1 => impl_Chart_featureOk n c0 f1)
def impl_Chart_featureOk_ent (n : Nat) : Ent T := ⟨121, 20, [], Bool, impl_Chart_featureOk_D n, impl_Chart_featureOk_enc⟩
def impl_ChartOk_D (n : Nat) (r0 : List (A T)) : Option Bool := ocons r0 fun a0 r1 => onil r1 (obind (argV (T := T) 63 a0) fun c0 => impl_ChartOk n c0)
def impl_ChartOk_ent (n : Nat) : Ent T := ⟨44, 21, [], Bool, impl_ChartOk_D n, impl_ChartOk_enc⟩
def impl_own_int_D (n : Nat) (r0 : List (A T)) : Option (List Int) := ocons r0 fun a0 r1 => onil r1 (obind (argV (T := T) 55 a0) fun l0 => impl_own_int n l0)
def impl_own_int_ent (n : Nat) : Ent T := ⟨104, 22, [], List Int, impl_own_int_D n, impl_own_int_enc⟩
def impl_Shoals_D (n : Nat) (r0 : List (A T)) : Option (List Int) := ocons r0 fun a0 r1 => ocons r1 fun a1 r2 => onil r2 (obind (argV (T := T) 63 a0) fun c0 => obind (argV (T := T) 3 a1) fun need1 => impl_Shoals n c0 need1)
def impl_Shoals_ent (n : Nat) : Ent T := ⟨36, 23, [], List Int, impl_Shoals_D n, impl_Shoals_enc⟩
def impl_DepthAt_D (n : Nat) (r0 : List (A T)) : Option (Int × Bool) := ocons r0 fun a0 r1 => ocons r1 fun a1 r2 => ocons r2 fun a2 r3 => onil r3 (obind (argV (T := T) 63 a0) fun c0 => obind (argV (T := T) 3 a1) fun x1 => obind (argV (T := T) 3 a2) fun y2 => impl_DepthAt n c0 x1 y2)
def impl_DepthAt_ent (n : Nat) : Ent T := ⟨45, 24, [], Int × Bool, impl_DepthAt_D n, impl_DepthAt_enc⟩
def laws_within_D (n : Nat) (r0 : List (A T)) : Option Bool := ocons r0 fun a0 r1 => ocons r1 fun a1 r2 => onil r2 (obind (argV (T := T) 55 a0) fun list0 => obind (argV (T := T) 3 a1) fun x1 => laws_within n list0 x1)
def laws_within_ent (n : Nat) : Ent T := ⟨46, 25, [], Bool, laws_within_D n, laws_within_enc⟩
def impl_size_D (n : Nat) (r0 : List (A T)) : Option Int := ocons r0 fun a0 r1 => onil r1 (obind (argV (T := T) 3 a0) fun n0 => impl_size n n0)
def impl_size_ent (n : Nat) : Ent T := ⟨123, 26, [], Int, impl_size_D n, impl_size_enc⟩
def cmp_isNaN_int_D (n : Nat) (r0 : List (A T)) : Option Bool := ocons r0 fun a0 r1 => onil r1 (obind (argV (T := T) 3 a0) fun x0 => cmp_isNaN_int n x0)
def cmp_isNaN_int_ent (n : Nat) : Ent T := ⟨248, 27, [], Bool, cmp_isNaN_int_D n, cmp_isNaN_int_enc⟩
def cmp_Compare_int_D (n : Nat) (r0 : List (A T)) : Option Int := ocons r0 fun a0 r1 => ocons r1 fun a1 r2 => onil r2 (obind (argV (T := T) 3 a0) fun x0 => obind (argV (T := T) 3 a1) fun y1 => cmp_Compare_int n x0 y1)
def cmp_Compare_int_ent (n : Nat) : Ent T := ⟨199, 28, [], Int, cmp_Compare_int_D n, cmp_Compare_int_enc⟩
def slices_Compare_int_int_D (n : Nat) (r0 : List (A T)) : Option Int := ocons r0 fun a0 r1 => ocons r1 fun a1 r2 => onil r2 (obind (argV (T := T) 55 a0) fun s10 => obind (argV (T := T) 55 a1) fun s21 => slices_Compare_int_int n s10 s21)
def slices_Compare_int_int_ent (n : Nat) : Ent T := ⟨126, 29, [], Int, slices_Compare_int_int_D n, slices_Compare_int_int_enc⟩
def impl_Near6_1_D (n : Nat) (r0 : List (A T)) : Option Int := ocons r0 fun a0 r1 => ocons r1 fun a1 r2 => onil r2 (obind (argV (T := T) 186 a0) fun a0 => obind (argV (T := T) 186 a1) fun b1 => impl_Near6_1 n a0 b1)
def impl_Near6_1_ent (n : Nat) : Ent T := ⟨125, 30, [], Int, impl_Near6_1_D n, impl_Near6_1_enc⟩
def slices_SortFunc_2_int_2_int__impl_Near6_1_D (n : Nat) (ar : List (A T)) : Option (List SArr2_Int) := match ar with
  | [a0, .fn _ []] => obind (argV (T := T) 185 a0) fun l0 => slices_SortFunc_2_int_2_int__impl_Near6_1 n l0
  | _ => none
def slices_SortFunc_2_int_2_int__impl_Near6_1_ent (n : Nat) : Ent T := ⟨124, 31, [125], List SArr2_Int, slices_SortFunc_2_int_2_int__impl_Near6_1_D n, slices_SortFunc_2_int_2_int__impl_Near6_1_enc⟩
def impl_Near6_D (n : Nat) (r0 : List (A T)) : Option (List Int) := ocons r0 fun a0 r1 => ocons r1 fun a1 r2 => ocons r2 fun a2 r3 => ocons r3 fun a3 r4 => onil r4 (obind (argV (T := T) 63 a0) fun c0 => obind (argV (T := T) 3 a1) fun x1 => obind (argV (T := T) 3 a2) fun y2 => obind (argV (T := T) 3 a3) fun far3 => impl_Near6 n c0 x1 y2 far3)
def impl_Near6_ent (n : Nat) : Ent T := ⟨47, 32, [], List Int, impl_Near6_D n, impl_Near6_enc⟩
def laws_FnShoals_D (n : Nat) (r0 : List (A T)) : Option Bool := ocons r0 fun a0 r1 => onil r1 (obind (argV (T := T) 22 a0) fun code0 => laws_FnShoals n code0)
def laws_FnShoals_ent (n : Nat) : Ent T := ⟨6, 33, [], Bool, laws_FnShoals_D n, laws_FnShoals_enc⟩
def ents (n : Nat) : List (Ent T) := [laws_big_ent n, spec_l1New_ent n, spec_l1Byte_ent n, spec_l1Below_ent n, spec_l1Pick_ent n, spec_l6Draw_ent n, spec_l1PickInt_ent n, spec_l6DrawAny_ent n, spec_DrawShoals_ent n, spec_l1In_ent n, spec_l6Depth_ent n, spec_l6Place_ent n, spec_l6Feature_ent n, spec_ChartOk_ent n, impl_in_ent n, impl_all_1_ent n, slices_IndexFunc_int_int__impl_all_1_ent n, slices_ContainsFunc_int_int__impl_all_1_ent n, impl_all_ent n, impl_Chart_place_ent n, impl_Chart_featureOk_ent n, impl_ChartOk_ent n, impl_own_int_ent n, impl_Shoals_ent n, impl_DepthAt_ent n, laws_within_ent n, impl_size_ent n, cmp_isNaN_int_ent n, cmp_Compare_int_ent n, slices_Compare_int_int_ent n, impl_Near6_1_ent n, slices_SortFunc_2_int_2_int__impl_Near6_1_ent n, impl_Near6_ent n, laws_FnShoals_ent n]
abbrev Phi (n i : Nat) {R : Type} (f : Nat) (ar : List (A T)) (K : Res T → Option R) : Option R := PhiE (ents n) i f ar K
theorem mixed : Try.prog.follows .mixedOrders = true := by kernel_rfl
noncomputable def laws_big_code : Code := match Try.f15.body with | some c => c | none => .skip
def laws_big_ann : Ann := fun id => none
def laws_big_Ls (n : Nat) : Nat → Option (LSpec T) := fun id => none
theorem laws_big_tie (n : Nat) (code0 : List Int) : evF (T := T) (Phi n 0) (laws_big_Ls n) laws_big_ann n Try.f15 (sg 15) [vA T 22 code0] laws_big_dec = laws_big n code0 := by kernel_rfl
theorem laws_big_lo (n : Nat) : LoopsOk (T := T) (Phi n 0) (laws_big_Ls n) laws_big_ann n laws_big_code := loopsOk_all (cs := []) (by kernel_rfl) trivial
theorem laws_big_ok (n : Nat) : EntOk Try.prog (ents n) (laws_big_ent n) := by
  intro hs ar y hg h
  replace h : laws_big_D n ar = some y := h
  unfold laws_big_D at h
  replace h := ocons_some h
  obtain ⟨a0, r0, rfl, h⟩ := h
  replace h := onil_some h
  obtain ⟨rfl, h⟩ := h
  obtain ⟨code0, qh0, h⟩ := obind_some h
  rw [argV_eq ok qh0]
  exact call_of (phiE_nat _ _) hs ok mixed Try.func15 (c := laws_big_code) (by kernel_rfl) (laws_big_lo n) (by kernel_rfl) (by kernel_rfl) (by kernel_rfl) laws_big_de ((laws_big_tie n code0).trans h)
noncomputable def spec_l1New_code : Code := match Try.f87.body with | some c => c | none => .skip
def spec_l1New_3_sv : List Sv := [.one (.arr 5), .one (.int .i64), .one (.int .i64)]
def spec_l1New_3_so : List So := []
def spec_l1New_3_emb (c : List Int) (x : Int × Int) : EVs T spec_l1New_3_sv × EOs T spec_l1New_3_so := ((c, x.1, x.2, ()), ())
def spec_l1New_3_prj (y : EVs T spec_l1New_3_sv × EOs T spec_l1New_3_so) : List Int × (Int × Int) := ((y.1.1), (y.1.2.1, y.1.2.2.1))
def spec_l1New_3_b (n : Nat) {R : Type} (K : Ex → Sm.St T → Option R) (c : List Int) (x : Int × Int) (J : (Int × Int) → Option R) : Option R :=
  spec_l1New_L3 n (fun (y1 : Int) => K (.exit 0) (stOf (T := T) [0, 3] [] [.one (.arr 5), .one (.int .i64)] [] (c, y1, ()) ())) (fun z0 z1 => J (z0, z1)) c x.1 x.2
def spec_l1New_3_sp (n : Nat) : LSpec T := mkSpec T ⟨[], [0, 3, 4], []⟩ spec_l1New_3_sv spec_l1New_3_so (List Int) (Int × Int) spec_l1New_3_emb spec_l1New_3_prj (spec_l1New_3_b n)
noncomputable def spec_l1New_3_c : Code := ((loopCodes spec_l1New_code)[0]?).getD .skip
def spec_l1New_ann : Ann := fun id => bif Nat.beq id 3000003 then some ⟨[], [0, 3], []⟩ else none
def spec_l1New_Ls (n : Nat) : Nat → Option (LSpec T) := fun id => bif Nat.beq id 3 then some (spec_l1New_3_sp n) else none
theorem spec_l1New_3_le (n : Nat) : LoopEq (T := T) (Phi n 1) (spec_l1New_Ls n) spec_l1New_ann n spec_l1New_3_c (spec_l1New_3_sp n) := ⟨mkSpec_dec (fun y => rfl), fun c x => by kernel_rfl, fun K J c x => by kernel_rfl⟩
theorem spec_l1New_tie (n : Nat) (code0 : List Int) : evF (T := T) (Phi n 1) (spec_l1New_Ls n) spec_l1New_ann n Try.f87 (sg 87) [vA T 22 code0] spec_l1New_dec = spec_l1New n code0 := by kernel_rfl
theorem spec_l1New_lo (n : Nat) : LoopsOk (T := T) (Phi n 1) (spec_l1New_Ls n) spec_l1New_ann n spec_l1New_code := loopsOk_all (cs := [spec_l1New_3_c]) (by kernel_rfl) ⟨⟨_, by kernel_rfl, spec_l1New_3_le n⟩, trivial⟩
theorem spec_l1New_ok (n : Nat) : EntOk Try.prog (ents n) (spec_l1New_ent n) := by
  intro hs ar y hg h
  replace h : spec_l1New_D n ar = some y := h
  unfold spec_l1New_D at h
  replace h := ocons_some h
  obtain ⟨a0, r0, rfl, h⟩ := h
  replace h := onil_some h
  obtain ⟨rfl, h⟩ := h
  obtain ⟨code0, qh0, h⟩ := obind_some h
  rw [argV_eq ok qh0]
  exact call_of (phiE_nat _ _) hs ok mixed Try.func87 (c := spec_l1New_code) (by kernel_rfl) (spec_l1New_lo n) (by kernel_rfl) (by kernel_rfl) (by kernel_rfl) spec_l1New_de ((spec_l1New_tie n code0).trans h)
noncomputable def spec_l1Byte_code : Code := match Try.f176.body with | some c => c | none => .skip
def spec_l1Byte_ann : Ann := fun id => none
def spec_l1Byte_Ls (n : Nat) : Nat → Option (LSpec T) := fun id => none
theorem spec_l1Byte_tie (n : Nat) (c0 : Sl1Cur) : evF (T := T) (Phi n 2) (spec_l1Byte_Ls n) spec_l1Byte_ann n Try.f176 (sg 176) [.ptr 239 c0] spec_l1Byte_dec = spec_l1Byte n c0 := by kernel_rfl
theorem spec_l1Byte_lo (n : Nat) : LoopsOk (T := T) (Phi n 2) (spec_l1Byte_Ls n) spec_l1Byte_ann n spec_l1Byte_code := loopsOk_all (cs := []) (by kernel_rfl) trivial
theorem spec_l1Byte_ok (n : Nat) : EntOk Try.prog (ents n) (spec_l1Byte_ent n) := by
  intro hs ar y hg h
  replace h : spec_l1Byte_D n ar = some y := h
  unfold spec_l1Byte_D at h
  replace h := ocons_some h
  obtain ⟨a0, r0, rfl, h⟩ := h
  replace h := onil_some h
  obtain ⟨rfl, h⟩ := h
  obtain ⟨c0, qh0, h⟩ := obind_some h
  rw [argP_eq qh0]
  exact call_of (phiE_nat _ _) hs ok mixed Try.func176 (c := spec_l1Byte_code) (by kernel_rfl) (spec_l1Byte_lo n) (by kernel_rfl) (by kernel_rfl) (by kernel_rfl) spec_l1Byte_de ((spec_l1Byte_tie n c0).trans h)
noncomputable def spec_l1Below_code : Code := match Try.f89.body with | some c => c | none => .skip
def spec_l1Below_ann : Ann := fun id => none
def spec_l1Below_Ls (n : Nat) : Nat → Option (LSpec T) := fun id => none
theorem spec_l1Below_tie (n : Nat) (c0 : Sl1Cur) (n1 : Int) : evF (T := T) (Phi n 3) (spec_l1Below_Ls n) spec_l1Below_ann n Try.f89 (sg 89) [.ptr 239 c0, vA T 3 n1] spec_l1Below_dec = spec_l1Below n c0 n1 := by kernel_rfl
theorem spec_l1Below_lo (n : Nat) : LoopsOk (T := T) (Phi n 3) (spec_l1Below_Ls n) spec_l1Below_ann n spec_l1Below_code := loopsOk_all (cs := []) (by kernel_rfl) trivial
theorem spec_l1Below_ok (n : Nat) : EntOk Try.prog (ents n) (spec_l1Below_ent n) := by
  intro hs ar y hg h
  replace h : spec_l1Below_D n ar = some y := h
  unfold spec_l1Below_D at h
  replace h := ocons_some h
  obtain ⟨a0, r0, rfl, h⟩ := h
  replace h := ocons_some h
  obtain ⟨a1, r1, rfl, h⟩ := h
  replace h := onil_some h
  obtain ⟨rfl, h⟩ := h
  obtain ⟨c0, qh0, h⟩ := obind_some h
  obtain ⟨n1, qh1, h⟩ := obind_some h
  rw [argP_eq qh0, argV_eq ok qh1]
  exact call_of (phiE_nat _ _) hs ok mixed Try.func89 (c := spec_l1Below_code) (by kernel_rfl) (spec_l1Below_lo n) (by kernel_rfl) (by kernel_rfl) (by kernel_rfl) spec_l1Below_de ((spec_l1Below_tie n c0 n1).trans h)
noncomputable def spec_l1Pick_code : Code := match Try.f211.body with | some c => c | none => .skip
def spec_l1Pick_ann : Ann := fun id => none
def spec_l1Pick_Ls (n : Nat) : Nat → Option (LSpec T) := fun id => none
theorem spec_l1Pick_tie (n : Nat) (c0 : Sl1Cur) (list1 : List ByteArray) : evF (T := T) (Phi n 4) (spec_l1Pick_Ls n) spec_l1Pick_ann n Try.f211 (sg 211) [.ptr 239 c0, vA T 270 list1] spec_l1Pick_dec = spec_l1Pick n c0 list1 := by kernel_rfl
theorem spec_l1Pick_lo (n : Nat) : LoopsOk (T := T) (Phi n 4) (spec_l1Pick_Ls n) spec_l1Pick_ann n spec_l1Pick_code := loopsOk_all (cs := []) (by kernel_rfl) trivial
theorem spec_l1Pick_ok (n : Nat) : EntOk Try.prog (ents n) (spec_l1Pick_ent n) := by
  intro hs ar y hg h
  replace h : spec_l1Pick_D n ar = some y := h
  unfold spec_l1Pick_D at h
  replace h := ocons_some h
  obtain ⟨a0, r0, rfl, h⟩ := h
  replace h := ocons_some h
  obtain ⟨a1, r1, rfl, h⟩ := h
  replace h := onil_some h
  obtain ⟨rfl, h⟩ := h
  obtain ⟨c0, qh0, h⟩ := obind_some h
  obtain ⟨list1, qh1, h⟩ := obind_some h
  rw [argP_eq qh0, argV_eq ok qh1]
  exact call_of (phiE_nat _ _) hs ok mixed Try.func211 (c := spec_l1Pick_code) (by kernel_rfl) (spec_l1Pick_lo n) (by kernel_rfl) (by kernel_rfl) (by kernel_rfl) spec_l1Pick_de ((spec_l1Pick_tie n c0 list1).trans h)
noncomputable def spec_l6Draw_code : Code := match Try.f138.body with | some c => c | none => .skip
def spec_l6Draw_3_sv : List Sv := [.one (.ptr 4503599627370496 0 0), .one (.ptr 16 0 0), .one (.ptr 24 0 0), .one (.int .i64)]
def spec_l6Draw_3_so : List So := [.var [.arr 5, .int .i64, .int .i64], .var [.int .i64, .int .i64, .own 3000000 3 false, .own 3000001 181 false, .int .i64], .arr 3 false, .arr 181 false, .var [.int .i64, .int .i64, .own 3000002 3 false, .own 3000003 181 false, .int .i64], .arr 3 false, .arr 181 false]
def spec_l6Draw_3_emb (c : Int × Int × Int × List Int × List SFeature × Int × Int × Int × List SFeature) (x : Int × Sl1Cur × List Int) : EVs T spec_l6Draw_3_sv × EOs T spec_l6Draw_3_so := (((), (), (), x.1, ()), ((x.2.1.b, x.2.1.i, x.2.1.h, ()), (c.1, c.2.1, (), (), c.2.2.1, ()), c.2.2.2.1, c.2.2.2.2.1, (c.2.2.2.2.2.1, c.2.2.2.2.2.2.1, (), (), c.2.2.2.2.2.2.2.1, ()), x.2.2, c.2.2.2.2.2.2.2.2, ()))
def spec_l6Draw_3_prj (y : EVs T spec_l6Draw_3_sv × EOs T spec_l6Draw_3_so) : (Int × Int × Int × List Int × List SFeature × Int × Int × Int × List SFeature) × (Int × Sl1Cur × List Int) := ((y.2.2.1.1, y.2.2.1.2.1, y.2.2.1.2.2.2.2.1, y.2.2.2.1, y.2.2.2.2.1, y.2.2.2.2.2.1.1, y.2.2.2.2.2.1.2.1, y.2.2.2.2.2.1.2.2.2.2.1, y.2.2.2.2.2.2.2.1), (y.1.2.2.2.1, ((⟨y.2.1.1, y.2.1.2.1, y.2.1.2.2.1⟩ : Sl1Cur) : Sl1Cur), y.2.2.2.2.2.2.1))
def spec_l6Draw_3_b (n : Nat) {R : Type} (K : Ex → Sm.St T → Option R) (c : Int × Int × Int × List Int × List SFeature × Int × Int × Int × List SFeature) (x : Int × Sl1Cur × List Int) (J : (Int × Sl1Cur × List Int) → Option R) : Option R :=
  spec_l6Draw_L3 n (fun (y0 : Sl1Cur) (y9 : List Int) => K (.exit 0) (stOf (T := T) [0, 2, 3] [4503599627370496, 16, 3000000, 3000001, 24, 3000002, 3000003] [.one (.ptr 4503599627370496 0 0), .one (.ptr 16 0 0), .one (.ptr 24 0 0)] [.var [.arr 5, .int .i64, .int .i64], .var [.int .i64, .int .i64, .own 3000000 3 false, .own 3000001 181 false, .int .i64], .arr 3 false, .arr 181 false, .var [.int .i64, .int .i64, .own 3000002 3 false, .own 3000003 181 false, .int .i64], .arr 3 false, .arr 181 false] ((), (), (), ()) ((y0.b, y0.i, y0.h, ()), (c.1, c.2.1, (), (), c.2.2.1, ()), c.2.2.2.1, c.2.2.2.2.1, (c.2.2.2.2.2.1, c.2.2.2.2.2.2.1, (), (), c.2.2.2.2.2.2.2.1, ()), y9, c.2.2.2.2.2.2.2.2, ()))) (fun z0 z1 z2 => J (z0, z1, z2)) x.1 x.2.1 c.1 c.2.1 c.2.2.1 c.2.2.2.1 c.2.2.2.2.1 c.2.2.2.2.2.1 c.2.2.2.2.2.2.1 c.2.2.2.2.2.2.2.1 x.2.2 c.2.2.2.2.2.2.2.2
def spec_l6Draw_3_sp (n : Nat) : LSpec T := mkSpec T ⟨[((.cell 16 2), 3000000, 3), ((.cell 16 3), 3000001, 181), ((.cell 24 2), 3000002, 3), ((.cell 24 3), 3000003, 181)], [0, 2, 3, 4], [4503599627370496, 16, 3000000, 3000001, 24, 3000002, 3000003]⟩ spec_l6Draw_3_sv spec_l6Draw_3_so (Int × Int × Int × List Int × List SFeature × Int × Int × Int × List SFeature) (Int × Sl1Cur × List Int) spec_l6Draw_3_emb spec_l6Draw_3_prj (spec_l6Draw_3_b n)
noncomputable def spec_l6Draw_3_c : Code := ((loopCodes spec_l6Draw_code)[0]?).getD .skip
def spec_l6Draw_8_sv : List Sv := [.one (.ptr 4503599627370496 0 0), .one (.ptr 16 0 0), .one (.ptr 24 0 0), .one (.int .i64), .one (.int .i64)]
def spec_l6Draw_8_so : List So := [.var [.arr 5, .int .i64, .int .i64], .var [.int .i64, .int .i64, .own 3000000 3 false, .own 3000001 181 false, .int .i64], .arr 3 false, .arr 181 false, .var [.int .i64, .int .i64, .own 3000002 3 false, .own 3000003 181 false, .int .i64], .arr 3 false, .arr 181 false]
def spec_l6Draw_8_emb (c : Int × Int × Int × List Int × List SFeature × Int × Int × Int × List Int) (x : Int × Int × Sl1Cur × List SFeature) : EVs T spec_l6Draw_8_sv × EOs T spec_l6Draw_8_so := (((), (), (), x.1, x.2.1, ()), ((x.2.2.1.b, x.2.2.1.i, x.2.2.1.h, ()), (c.1, c.2.1, (), (), c.2.2.1, ()), c.2.2.2.1, c.2.2.2.2.1, (c.2.2.2.2.2.1, c.2.2.2.2.2.2.1, (), (), c.2.2.2.2.2.2.2.1, ()), c.2.2.2.2.2.2.2.2, x.2.2.2, ()))
def spec_l6Draw_8_prj (y : EVs T spec_l6Draw_8_sv × EOs T spec_l6Draw_8_so) : (Int × Int × Int × List Int × List SFeature × Int × Int × Int × List Int) × (Int × Int × Sl1Cur × List SFeature) := ((y.2.2.1.1, y.2.2.1.2.1, y.2.2.1.2.2.2.2.1, y.2.2.2.1, y.2.2.2.2.1, y.2.2.2.2.2.1.1, y.2.2.2.2.2.1.2.1, y.2.2.2.2.2.1.2.2.2.2.1, y.2.2.2.2.2.2.1), (y.1.2.2.2.1, y.1.2.2.2.2.1, ((⟨y.2.1.1, y.2.1.2.1, y.2.1.2.2.1⟩ : Sl1Cur) : Sl1Cur), y.2.2.2.2.2.2.2.1))
def spec_l6Draw_8_b (n : Nat) {R : Type} (K : Ex → Sm.St T → Option R) (c : Int × Int × Int × List Int × List SFeature × Int × Int × Int × List Int) (x : Int × Int × Sl1Cur × List SFeature) (J : (Int × Int × Sl1Cur × List SFeature) → Option R) : Option R :=
  spec_l6Draw_L8 n (fun (y9 : List SFeature) (y10 : Sl1Cur) => K (.exit 2) (stOf (T := T) [2, 3] [16, 3000000, 3000001, 24, 3000002, 3000003, 4503599627370496] [.one (.ptr 16 0 0), .one (.ptr 24 0 0)] [.var [.int .i64, .int .i64, .own 3000000 3 false, .own 3000001 181 false, .int .i64], .arr 3 false, .arr 181 false, .var [.int .i64, .int .i64, .own 3000002 3 false, .own 3000003 181 false, .int .i64], .arr 3 false, .arr 181 false, .var [.arr 5, .int .i64, .int .i64]] ((), (), ()) ((c.1, c.2.1, (), (), c.2.2.1, ()), c.2.2.2.1, c.2.2.2.2.1, (c.2.2.2.2.2.1, c.2.2.2.2.2.2.1, (), (), c.2.2.2.2.2.2.2.1, ()), c.2.2.2.2.2.2.2.2, y9, (y10.b, y10.i, y10.h, ()), ()))) (fun z0 z1 z2 z3 => J (z0, z1, z2, z3)) x.1 x.2.1 x.2.2.1 c.1 c.2.1 c.2.2.1 c.2.2.2.1 c.2.2.2.2.1 c.2.2.2.2.2.1 c.2.2.2.2.2.2.1 c.2.2.2.2.2.2.2.1 c.2.2.2.2.2.2.2.2 x.2.2.2
def spec_l6Draw_8_sp (n : Nat) : LSpec T := mkSpec T ⟨[((.cell 16 2), 3000000, 3), ((.cell 16 3), 3000001, 181), ((.cell 24 2), 3000002, 3), ((.cell 24 3), 3000003, 181)], [0, 2, 3, 5, 6], [4503599627370496, 16, 3000000, 3000001, 24, 3000002, 3000003]⟩ spec_l6Draw_8_sv spec_l6Draw_8_so (Int × Int × Int × List Int × List SFeature × Int × Int × Int × List Int) (Int × Int × Sl1Cur × List SFeature) spec_l6Draw_8_emb spec_l6Draw_8_prj (spec_l6Draw_8_b n)
noncomputable def spec_l6Draw_8_c : Code := ((loopCodes spec_l6Draw_code)[1]?).getD .skip
def spec_l6Draw_ann : Ann := fun id => bif Nat.beq id 3000003 then some ⟨[((.cell 16 2), 3000000, 3), ((.cell 16 3), 3000001, 181), ((.cell 24 2), 3000002, 3), ((.cell 24 3), 3000003, 181)], [0, 2, 3], [4503599627370496, 16, 3000000, 3000001, 24, 3000002, 3000003]⟩ else bif Nat.beq id 5000008 then some ⟨[((.cell 16 2), 3000000, 3), ((.cell 16 3), 3000001, 181), ((.cell 24 2), 3000002, 3), ((.cell 24 3), 3000003, 181)], [2, 3], [16, 3000000, 3000001, 24, 3000002, 3000003, 4503599627370496]⟩ else none
def spec_l6Draw_Ls (n : Nat) : Nat → Option (LSpec T) := fun id => bif Nat.beq id 3 then some (spec_l6Draw_3_sp n) else bif Nat.beq id 8 then some (spec_l6Draw_8_sp n) else none
theorem spec_l6Draw_3_le (n : Nat) : LoopEq (T := T) (Phi n 5) (spec_l6Draw_Ls n) spec_l6Draw_ann n spec_l6Draw_3_c (spec_l6Draw_3_sp n) := ⟨mkSpec_dec (fun y => rfl), fun c x => by kernel_rfl, fun K J c x => by kernel_rfl⟩
theorem spec_l6Draw_8_le (n : Nat) : LoopEq (T := T) (Phi n 5) (spec_l6Draw_Ls n) spec_l6Draw_ann n spec_l6Draw_8_c (spec_l6Draw_8_sp n) := ⟨mkSpec_dec (fun y => rfl), fun c x => by kernel_rfl, fun K J c x => by kernel_rfl⟩
theorem spec_l6Draw_tie (n : Nat) (c0 : Sl1Cur) : evF (T := T) (Phi n 5) (spec_l6Draw_Ls n) spec_l6Draw_ann n Try.f138 (sg 138) [.ptr 239 c0] spec_l6Draw_dec = spec_l6Draw n c0 := by kernel_rfl
theorem spec_l6Draw_lo (n : Nat) : LoopsOk (T := T) (Phi n 5) (spec_l6Draw_Ls n) spec_l6Draw_ann n spec_l6Draw_code := loopsOk_all (cs := [spec_l6Draw_3_c, spec_l6Draw_8_c]) (by kernel_rfl) ⟨⟨_, by kernel_rfl, spec_l6Draw_3_le n⟩, ⟨_, by kernel_rfl, spec_l6Draw_8_le n⟩, trivial⟩
theorem spec_l6Draw_ok (n : Nat) : EntOk Try.prog (ents n) (spec_l6Draw_ent n) := by
  intro hs ar y hg h
  replace h : spec_l6Draw_D n ar = some y := h
  unfold spec_l6Draw_D at h
  replace h := ocons_some h
  obtain ⟨a0, r0, rfl, h⟩ := h
  replace h := onil_some h
  obtain ⟨rfl, h⟩ := h
  obtain ⟨c0, qh0, h⟩ := obind_some h
  rw [argP_eq qh0]
  exact call_of (phiE_nat _ _) hs ok mixed Try.func138 (c := spec_l6Draw_code) (by kernel_rfl) (spec_l6Draw_lo n) (by kernel_rfl) (by kernel_rfl) (by kernel_rfl) spec_l6Draw_de ((spec_l6Draw_tie n c0).trans h)
noncomputable def spec_l1PickInt_code : Code := match Try.f195.body with | some c => c | none => .skip
def spec_l1PickInt_ann : Ann := fun id => none
def spec_l1PickInt_Ls (n : Nat) : Nat → Option (LSpec T) := fun id => none
theorem spec_l1PickInt_tie (n : Nat) (c0 : Sl1Cur) (list1 : List Int) : evF (T := T) (Phi n 6) (spec_l1PickInt_Ls n) spec_l1PickInt_ann n Try.f195 (sg 195) [.ptr 239 c0, vA T 55 list1] spec_l1PickInt_dec = spec_l1PickInt n c0 list1 := by kernel_rfl
theorem spec_l1PickInt_lo (n : Nat) : LoopsOk (T := T) (Phi n 6) (spec_l1PickInt_Ls n) spec_l1PickInt_ann n spec_l1PickInt_code := loopsOk_all (cs := []) (by kernel_rfl) trivial
theorem spec_l1PickInt_ok (n : Nat) : EntOk Try.prog (ents n) (spec_l1PickInt_ent n) := by
  intro hs ar y hg h
  replace h : spec_l1PickInt_D n ar = some y := h
  unfold spec_l1PickInt_D at h
  replace h := ocons_some h
  obtain ⟨a0, r0, rfl, h⟩ := h
  replace h := ocons_some h
  obtain ⟨a1, r1, rfl, h⟩ := h
  replace h := onil_some h
  obtain ⟨rfl, h⟩ := h
  obtain ⟨c0, qh0, h⟩ := obind_some h
  obtain ⟨list1, qh1, h⟩ := obind_some h
  rw [argP_eq qh0, argV_eq ok qh1]
  exact call_of (phiE_nat _ _) hs ok mixed Try.func195 (c := spec_l1PickInt_code) (by kernel_rfl) (spec_l1PickInt_lo n) (by kernel_rfl) (by kernel_rfl) (by kernel_rfl) spec_l1PickInt_de ((spec_l1PickInt_tie n c0 list1).trans h)
noncomputable def spec_l6DrawAny_code : Code := match Try.f116.body with | some c => c | none => .skip
def spec_l6DrawAny_15_sv : List Sv := [.one (.ptr 4503599627370496 0 0), .one (.ptr 16 0 0), .one (.ptr 24 0 0), .one (.int .i64)]
def spec_l6DrawAny_15_so : List So := [.var [.arr 5, .int .i64, .int .i64], .var [.int .i64, .int .i64, .own 3000000 3 false, .own 3000001 181 false, .int .i64], .arr 3 false, .arr 181 false, .var [.int .i64, .int .i64, .own 3000002 3 false, .own 3000003 181 false, .int .i64], .arr 3 false, .arr 181 false]
def spec_l6DrawAny_15_emb (c : Int × Int × Int × List Int × List SFeature × Int × Int × Int × List Int) (x : Int × Sl1Cur × List SFeature) : EVs T spec_l6DrawAny_15_sv × EOs T spec_l6DrawAny_15_so := (((), (), (), x.1, ()), ((x.2.1.b, x.2.1.i, x.2.1.h, ()), (c.1, c.2.1, (), (), c.2.2.1, ()), c.2.2.2.1, c.2.2.2.2.1, (c.2.2.2.2.2.1, c.2.2.2.2.2.2.1, (), (), c.2.2.2.2.2.2.2.1, ()), c.2.2.2.2.2.2.2.2, x.2.2, ()))
def spec_l6DrawAny_15_prj (y : EVs T spec_l6DrawAny_15_sv × EOs T spec_l6DrawAny_15_so) : (Int × Int × Int × List Int × List SFeature × Int × Int × Int × List Int) × (Int × Sl1Cur × List SFeature) := ((y.2.2.1.1, y.2.2.1.2.1, y.2.2.1.2.2.2.2.1, y.2.2.2.1, y.2.2.2.2.1, y.2.2.2.2.2.1.1, y.2.2.2.2.2.1.2.1, y.2.2.2.2.2.1.2.2.2.2.1, y.2.2.2.2.2.2.1), (y.1.2.2.2.1, ((⟨y.2.1.1, y.2.1.2.1, y.2.1.2.2.1⟩ : Sl1Cur) : Sl1Cur), y.2.2.2.2.2.2.2.1))
def spec_l6DrawAny_15_b (n : Nat) {R : Type} (K : Ex → Sm.St T → Option R) (c : Int × Int × Int × List Int × List SFeature × Int × Int × Int × List Int) (x : Int × Sl1Cur × List SFeature) (J : (Int × Sl1Cur × List SFeature) → Option R) : Option R :=
  spec_l6DrawAny_L15 n (fun (y9 : List SFeature) (y10 : Sl1Cur) => K (.exit 1) (stOf (T := T) [2, 3] [16, 3000000, 3000001, 24, 3000002, 3000003, 4503599627370496] [.one (.ptr 16 0 0), .one (.ptr 24 0 0)] [.var [.int .i64, .int .i64, .own 3000000 3 false, .own 3000001 181 false, .int .i64], .arr 3 false, .arr 181 false, .var [.int .i64, .int .i64, .own 3000002 3 false, .own 3000003 181 false, .int .i64], .arr 3 false, .arr 181 false, .var [.arr 5, .int .i64, .int .i64]] ((), (), ()) ((c.1, c.2.1, (), (), c.2.2.1, ()), c.2.2.2.1, c.2.2.2.2.1, (c.2.2.2.2.2.1, c.2.2.2.2.2.2.1, (), (), c.2.2.2.2.2.2.2.1, ()), c.2.2.2.2.2.2.2.2, y9, (y10.b, y10.i, y10.h, ()), ()))) (fun z0 z1 z2 => J (z0, z1, z2)) x.1 x.2.1 c.1 c.2.1 c.2.2.1 c.2.2.2.1 c.2.2.2.2.1 c.2.2.2.2.2.1 c.2.2.2.2.2.2.1 c.2.2.2.2.2.2.2.1 c.2.2.2.2.2.2.2.2 x.2.2
def spec_l6DrawAny_15_sp (n : Nat) : LSpec T := mkSpec T ⟨[((.cell 16 2), 3000000, 3), ((.cell 16 3), 3000001, 181), ((.cell 24 2), 3000002, 3), ((.cell 24 3), 3000003, 181)], [0, 2, 3, 4], [4503599627370496, 16, 3000000, 3000001, 24, 3000002, 3000003]⟩ spec_l6DrawAny_15_sv spec_l6DrawAny_15_so (Int × Int × Int × List Int × List SFeature × Int × Int × Int × List Int) (Int × Sl1Cur × List SFeature) spec_l6DrawAny_15_emb spec_l6DrawAny_15_prj (spec_l6DrawAny_15_b n)
noncomputable def spec_l6DrawAny_15_c : Code := ((loopCodes spec_l6DrawAny_code)[0]?).getD .skip
def spec_l6DrawAny_ann : Ann := fun id => bif Nat.beq id 4000015 then some ⟨[((.cell 16 2), 3000000, 3), ((.cell 16 3), 3000001, 181), ((.cell 24 2), 3000002, 3), ((.cell 24 3), 3000003, 181)], [2, 3], [16, 3000000, 3000001, 24, 3000002, 3000003, 4503599627370496]⟩ else none
def spec_l6DrawAny_Ls (n : Nat) : Nat → Option (LSpec T) := fun id => bif Nat.beq id 15 then some (spec_l6DrawAny_15_sp n) else none
theorem spec_l6DrawAny_15_le (n : Nat) : LoopEq (T := T) (Phi n 7) (spec_l6DrawAny_Ls n) spec_l6DrawAny_ann n spec_l6DrawAny_15_c (spec_l6DrawAny_15_sp n) := ⟨mkSpec_dec (fun y => rfl), fun c x => by kernel_rfl, fun K J c x => by kernel_rfl⟩
theorem spec_l6DrawAny_tie (n : Nat) (c0 : Sl1Cur) : evF (T := T) (Phi n 7) (spec_l6DrawAny_Ls n) spec_l6DrawAny_ann n Try.f116 (sg 116) [.ptr 239 c0] spec_l6DrawAny_dec = spec_l6DrawAny n c0 := by kernel_rfl
theorem spec_l6DrawAny_lo (n : Nat) : LoopsOk (T := T) (Phi n 7) (spec_l6DrawAny_Ls n) spec_l6DrawAny_ann n spec_l6DrawAny_code := loopsOk_all (cs := [spec_l6DrawAny_15_c]) (by kernel_rfl) ⟨⟨_, by kernel_rfl, spec_l6DrawAny_15_le n⟩, trivial⟩
theorem spec_l6DrawAny_ok (n : Nat) : EntOk Try.prog (ents n) (spec_l6DrawAny_ent n) := by
  intro hs ar y hg h
  replace h : spec_l6DrawAny_D n ar = some y := h
  unfold spec_l6DrawAny_D at h
  replace h := ocons_some h
  obtain ⟨a0, r0, rfl, h⟩ := h
  replace h := onil_some h
  obtain ⟨rfl, h⟩ := h
  obtain ⟨c0, qh0, h⟩ := obind_some h
  rw [argP_eq qh0]
  exact call_of (phiE_nat _ _) hs ok mixed Try.func116 (c := spec_l6DrawAny_code) (by kernel_rfl) (spec_l6DrawAny_lo n) (by kernel_rfl) (by kernel_rfl) (by kernel_rfl) spec_l6DrawAny_de ((spec_l6DrawAny_tie n c0).trans h)
noncomputable def spec_DrawShoals_code : Code := match Try.f42.body with | some c => c | none => .skip
def spec_DrawShoals_ann : Ann := fun id => none
def spec_DrawShoals_Ls (n : Nat) : Nat → Option (LSpec T) := fun id => none
theorem spec_DrawShoals_tie (n : Nat) (code0 : List Int) : evF (T := T) (Phi n 8) (spec_DrawShoals_Ls n) spec_DrawShoals_ann n Try.f42 (sg 42) [vA T 22 code0] spec_DrawShoals_dec = spec_DrawShoals n code0 := by kernel_rfl
theorem spec_DrawShoals_lo (n : Nat) : LoopsOk (T := T) (Phi n 8) (spec_DrawShoals_Ls n) spec_DrawShoals_ann n spec_DrawShoals_code := loopsOk_all (cs := []) (by kernel_rfl) trivial
theorem spec_DrawShoals_ok (n : Nat) : EntOk Try.prog (ents n) (spec_DrawShoals_ent n) := by
  intro hs ar y hg h
  replace h : spec_DrawShoals_D n ar = some y := h
  unfold spec_DrawShoals_D at h
  replace h := ocons_some h
  obtain ⟨a0, r0, rfl, h⟩ := h
  replace h := onil_some h
  obtain ⟨rfl, h⟩ := h
  obtain ⟨code0, qh0, h⟩ := obind_some h
  rw [argV_eq ok qh0]
  exact call_of (phiE_nat _ _) hs ok mixed Try.func42 (c := spec_DrawShoals_code) (by kernel_rfl) (spec_DrawShoals_lo n) (by kernel_rfl) (by kernel_rfl) (by kernel_rfl) spec_DrawShoals_de ((spec_DrawShoals_tie n code0).trans h)
noncomputable def spec_l1In_code : Code := match Try.f100.body with | some c => c | none => .skip
def spec_l1In_ann : Ann := fun id => none
def spec_l1In_Ls (n : Nat) : Nat → Option (LSpec T) := fun id => none
theorem spec_l1In_tie (n : Nat) (x0 : Int) (a1 : Int) (b2 : Int) : evF (T := T) (Phi n 9) (spec_l1In_Ls n) spec_l1In_ann n Try.f100 (sg 100) [vA T 3 x0, vA T 3 a1, vA T 3 b2] spec_l1In_dec = spec_l1In n x0 a1 b2 := by kernel_rfl
theorem spec_l1In_lo (n : Nat) : LoopsOk (T := T) (Phi n 9) (spec_l1In_Ls n) spec_l1In_ann n spec_l1In_code := loopsOk_all (cs := []) (by kernel_rfl) trivial
theorem spec_l1In_ok (n : Nat) : EntOk Try.prog (ents n) (spec_l1In_ent n) := by
  intro hs ar y hg h
  replace h : spec_l1In_D n ar = some y := h
  unfold spec_l1In_D at h
  replace h := ocons_some h
  obtain ⟨a0, r0, rfl, h⟩ := h
  replace h := ocons_some h
  obtain ⟨a1, r1, rfl, h⟩ := h
  replace h := ocons_some h
  obtain ⟨a2, r2, rfl, h⟩ := h
  replace h := onil_some h
  obtain ⟨rfl, h⟩ := h
  obtain ⟨x0, qh0, h⟩ := obind_some h
  obtain ⟨a1, qh1, h⟩ := obind_some h
  obtain ⟨b2, qh2, h⟩ := obind_some h
  rw [argV_eq ok qh0, argV_eq ok qh1, argV_eq ok qh2]
  exact call_of (phiE_nat _ _) hs ok mixed Try.func100 (c := spec_l1In_code) (by kernel_rfl) (spec_l1In_lo n) (by kernel_rfl) (by kernel_rfl) (by kernel_rfl) spec_l1In_de ((spec_l1In_tie n x0 a1 b2).trans h)
noncomputable def spec_l6Depth_code : Code := match Try.f117.body with | some c => c | none => .skip
def spec_l6Depth_ann : Ann := fun id => none
def spec_l6Depth_Ls (n : Nat) : Nat → Option (LSpec T) := fun id => none
theorem spec_l6Depth_tie (n : Nat) (d0 : Int) : evF (T := T) (Phi n 10) (spec_l6Depth_Ls n) spec_l6Depth_ann n Try.f117 (sg 117) [vA T 3 d0] spec_l6Depth_dec = spec_l6Depth n d0 := by kernel_rfl
theorem spec_l6Depth_lo (n : Nat) : LoopsOk (T := T) (Phi n 10) (spec_l6Depth_Ls n) spec_l6Depth_ann n spec_l6Depth_code := loopsOk_all (cs := []) (by kernel_rfl) trivial
theorem spec_l6Depth_ok (n : Nat) : EntOk Try.prog (ents n) (spec_l6Depth_ent n) := by
  intro hs ar y hg h
  replace h : spec_l6Depth_D n ar = some y := h
  unfold spec_l6Depth_D at h
  replace h := ocons_some h
  obtain ⟨a0, r0, rfl, h⟩ := h
  replace h := onil_some h
  obtain ⟨rfl, h⟩ := h
  obtain ⟨d0, qh0, h⟩ := obind_some h
  rw [argV_eq ok qh0]
  exact call_of (phiE_nat _ _) hs ok mixed Try.func117 (c := spec_l6Depth_code) (by kernel_rfl) (spec_l6Depth_lo n) (by kernel_rfl) (by kernel_rfl) (by kernel_rfl) spec_l6Depth_de ((spec_l6Depth_tie n d0).trans h)
noncomputable def spec_l6Place_code : Code := match Try.f127.body with | some c => c | none => .skip
def spec_l6Place_ann : Ann := fun id => none
def spec_l6Place_Ls (n : Nat) : Nat → Option (LSpec T) := fun id => none
theorem spec_l6Place_tie (n : Nat) (c0 : SChart) (x1 : Int) (y2 : Int) : evF (T := T) (Phi n 11) (spec_l6Place_Ls n) spec_l6Place_ann n Try.f127 (sg 127) [vA T 63 c0, vA T 3 x1, vA T 3 y2] spec_l6Place_dec = spec_l6Place n c0 x1 y2 := by kernel_rfl
theorem spec_l6Place_lo (n : Nat) : LoopsOk (T := T) (Phi n 11) (spec_l6Place_Ls n) spec_l6Place_ann n spec_l6Place_code := loopsOk_all (cs := []) (by kernel_rfl) trivial
theorem spec_l6Place_ok (n : Nat) : EntOk Try.prog (ents n) (spec_l6Place_ent n) := by
  intro hs ar y hg h
  replace h : spec_l6Place_D n ar = some y := h
  unfold spec_l6Place_D at h
  replace h := ocons_some h
  obtain ⟨a0, r0, rfl, h⟩ := h
  replace h := ocons_some h
  obtain ⟨a1, r1, rfl, h⟩ := h
  replace h := ocons_some h
  obtain ⟨a2, r2, rfl, h⟩ := h
  replace h := onil_some h
  obtain ⟨rfl, h⟩ := h
  obtain ⟨c0, qh0, h⟩ := obind_some h
  obtain ⟨x1, qh1, h⟩ := obind_some h
  obtain ⟨y2, qh2, h⟩ := obind_some h
  rw [argV_eq ok qh0, argV_eq ok qh1, argV_eq ok qh2]
  exact call_of (phiE_nat _ _) hs ok mixed Try.func127 (c := spec_l6Place_code) (by kernel_rfl) (spec_l6Place_lo n) (by kernel_rfl) (by kernel_rfl) (by kernel_rfl) spec_l6Place_de ((spec_l6Place_tie n c0 x1 y2).trans h)
noncomputable def spec_l6Feature_code : Code := match Try.f118.body with | some c => c | none => .skip
def spec_l6Feature_ann : Ann := fun id => none
def spec_l6Feature_Ls (n : Nat) : Nat → Option (LSpec T) := fun id => none
theorem spec_l6Feature_tie (n : Nat) (c0 : SChart) (f1 : SFeature) : evF (T := T) (Phi n 12) (spec_l6Feature_Ls n) spec_l6Feature_ann n Try.f118 (sg 118) [vA T 63 c0, vA T 181 f1] spec_l6Feature_dec = spec_l6Feature n c0 f1 := by kernel_rfl
theorem spec_l6Feature_lo (n : Nat) : LoopsOk (T := T) (Phi n 12) (spec_l6Feature_Ls n) spec_l6Feature_ann n spec_l6Feature_code := loopsOk_all (cs := []) (by kernel_rfl) trivial
theorem spec_l6Feature_ok (n : Nat) : EntOk Try.prog (ents n) (spec_l6Feature_ent n) := by
  intro hs ar y hg h
  replace h : spec_l6Feature_D n ar = some y := h
  unfold spec_l6Feature_D at h
  replace h := ocons_some h
  obtain ⟨a0, r0, rfl, h⟩ := h
  replace h := ocons_some h
  obtain ⟨a1, r1, rfl, h⟩ := h
  replace h := onil_some h
  obtain ⟨rfl, h⟩ := h
  obtain ⟨c0, qh0, h⟩ := obind_some h
  obtain ⟨f1, qh1, h⟩ := obind_some h
  rw [argV_eq ok qh0, argV_eq ok qh1]
  exact call_of (phiE_nat _ _) hs ok mixed Try.func118 (c := spec_l6Feature_code) (by kernel_rfl) (spec_l6Feature_lo n) (by kernel_rfl) (by kernel_rfl) (by kernel_rfl) spec_l6Feature_de ((spec_l6Feature_tie n c0 f1).trans h)
noncomputable def spec_ChartOk_code : Code := match Try.f43.body with | some c => c | none => .skip
def spec_ChartOk_4_sv : List Sv := [.one (.ptr 8 0 0), .one (.int .i64)]
def spec_ChartOk_4_so : List So := [.var [.int .i64, .int .i64, .arr 3, .arr 181, .int .i64]]
def spec_ChartOk_4_emb (c : SChart) (x : Int) : EVs T spec_ChartOk_4_sv × EOs T spec_ChartOk_4_so := (((), x, ()), ((c.Wide, c.High, c.Depths, c.Features, c.Edition, ()), ()))
def spec_ChartOk_4_prj (y : EVs T spec_ChartOk_4_sv × EOs T spec_ChartOk_4_so) : SChart × Int := ((((⟨y.2.1.1, y.2.1.2.1, y.2.1.2.2.1, y.2.1.2.2.2.1, y.2.1.2.2.2.2.1⟩ : SChart) : SChart)), (y.1.2.1))
def spec_ChartOk_4_b (n : Nat) {R : Type} (K : Ex → Sm.St T → Option R) (c : SChart) (x : Int) (J : Int → Option R) : Option R :=
  spec_ChartOk_L4 n (K (.exit 0) (stOf (T := T) [1] [8] [.one (.ptr 8 0 0)] [.var [.int .i64, .int .i64, .arr 3, .arr 181, .int .i64]] ((), ()) ((c.Wide, c.High, c.Depths, c.Features, c.Edition, ()), ()))) (fun (y0 : Bool) => K .ret (stOf (T := T) [2] [] [.one (.bool)] [] (y0, ()) ())) J x c
def spec_ChartOk_4_sp (n : Nat) : LSpec T := mkSpec T ⟨[], [1, 3], [8]⟩ spec_ChartOk_4_sv spec_ChartOk_4_so (SChart) (Int) spec_ChartOk_4_emb spec_ChartOk_4_prj (spec_ChartOk_4_b n)
noncomputable def spec_ChartOk_4_c : Code := ((loopCodes spec_ChartOk_code)[0]?).getD .skip
def spec_ChartOk_9_sv : List Sv := [.one (.ptr 8 0 0), .one (.int .i64)]
def spec_ChartOk_9_so : List So := [.var [.int .i64, .int .i64, .arr 3, .arr 181, .int .i64]]
def spec_ChartOk_9_emb (c : SChart) (x : Int) : EVs T spec_ChartOk_9_sv × EOs T spec_ChartOk_9_so := (((), x, ()), ((c.Wide, c.High, c.Depths, c.Features, c.Edition, ()), ()))
def spec_ChartOk_9_prj (y : EVs T spec_ChartOk_9_sv × EOs T spec_ChartOk_9_so) : SChart × Int := ((((⟨y.2.1.1, y.2.1.2.1, y.2.1.2.2.1, y.2.1.2.2.2.1, y.2.1.2.2.2.2.1⟩ : SChart) : SChart)), (y.1.2.1))
def spec_ChartOk_9_b (n : Nat) {R : Type} (K : Ex → Sm.St T → Option R) (c : SChart) (x : Int) (J : Int → Option R) : Option R :=
  spec_ChartOk_L9 n (K (.exit 2) (stOf (T := T) [] [] [] [] () ())) (fun (y0 : Bool) => K .ret (stOf (T := T) [2] [] [.one (.bool)] [] (y0, ()) ())) J x c
def spec_ChartOk_9_sp (n : Nat) : LSpec T := mkSpec T ⟨[], [1, 4], [8]⟩ spec_ChartOk_9_sv spec_ChartOk_9_so (SChart) (Int) spec_ChartOk_9_emb spec_ChartOk_9_prj (spec_ChartOk_9_b n)
noncomputable def spec_ChartOk_9_c : Code := ((loopCodes spec_ChartOk_code)[1]?).getD .skip
def spec_ChartOk_ann : Ann := fun id => bif Nat.beq id 3000004 then some ⟨[], [1], [8]⟩ else bif Nat.beq id 2000004 then some ⟨[], [2], []⟩ else bif Nat.beq id 5000009 then some ⟨[], [], []⟩ else bif Nat.beq id 2000009 then some ⟨[], [2], []⟩ else none
def spec_ChartOk_Ls (n : Nat) : Nat → Option (LSpec T) := fun id => bif Nat.beq id 4 then some (spec_ChartOk_4_sp n) else bif Nat.beq id 9 then some (spec_ChartOk_9_sp n) else none
theorem spec_ChartOk_4_le (n : Nat) : LoopEq (T := T) (Phi n 13) (spec_ChartOk_Ls n) spec_ChartOk_ann n spec_ChartOk_4_c (spec_ChartOk_4_sp n) := ⟨mkSpec_dec (fun y => rfl), fun c x => by kernel_rfl, fun K J c x => by kernel_rfl⟩
theorem spec_ChartOk_9_le (n : Nat) : LoopEq (T := T) (Phi n 13) (spec_ChartOk_Ls n) spec_ChartOk_ann n spec_ChartOk_9_c (spec_ChartOk_9_sp n) := ⟨mkSpec_dec (fun y => rfl), fun c x => by kernel_rfl, fun K J c x => by kernel_rfl⟩
theorem spec_ChartOk_tie (n : Nat) (c0 : SChart) : evF (T := T) (Phi n 13) (spec_ChartOk_Ls n) spec_ChartOk_ann n Try.f43 (sg 43) [vA T 63 c0] spec_ChartOk_dec = spec_ChartOk n c0 := by kernel_rfl
theorem spec_ChartOk_lo (n : Nat) : LoopsOk (T := T) (Phi n 13) (spec_ChartOk_Ls n) spec_ChartOk_ann n spec_ChartOk_code := loopsOk_all (cs := [spec_ChartOk_4_c, spec_ChartOk_9_c]) (by kernel_rfl) ⟨⟨_, by kernel_rfl, spec_ChartOk_4_le n⟩, ⟨_, by kernel_rfl, spec_ChartOk_9_le n⟩, trivial⟩
theorem spec_ChartOk_ok (n : Nat) : EntOk Try.prog (ents n) (spec_ChartOk_ent n) := by
  intro hs ar y hg h
  replace h : spec_ChartOk_D n ar = some y := h
  unfold spec_ChartOk_D at h
  replace h := ocons_some h
  obtain ⟨a0, r0, rfl, h⟩ := h
  replace h := onil_some h
  obtain ⟨rfl, h⟩ := h
  obtain ⟨c0, qh0, h⟩ := obind_some h
  rw [argV_eq ok qh0]
  exact call_of (phiE_nat _ _) hs ok mixed Try.func43 (c := spec_ChartOk_code) (by kernel_rfl) (spec_ChartOk_lo n) (by kernel_rfl) (by kernel_rfl) (by kernel_rfl) spec_ChartOk_de ((spec_ChartOk_tie n c0).trans h)
noncomputable def impl_in_code : Code := match Try.f119.body with | some c => c | none => .skip
def impl_in_ann : Ann := fun id => none
def impl_in_Ls (n : Nat) : Nat → Option (LSpec T) := fun id => none
theorem impl_in_tie (n : Nat) (n0 : Int) (least1 : Int) (most2 : Int) : evF (T := T) (Phi n 14) (impl_in_Ls n) impl_in_ann n Try.f119 (sg 119) [vA T 3 n0, vA T 3 least1, vA T 3 most2] impl_in_dec = impl_in n n0 least1 most2 := by kernel_rfl
theorem impl_in_lo (n : Nat) : LoopsOk (T := T) (Phi n 14) (impl_in_Ls n) impl_in_ann n impl_in_code := loopsOk_all (cs := []) (by kernel_rfl) trivial
theorem impl_in_ok (n : Nat) : EntOk Try.prog (ents n) (impl_in_ent n) := by
  intro hs ar y hg h
  replace h : impl_in_D n ar = some y := h
  unfold impl_in_D at h
  replace h := ocons_some h
  obtain ⟨a0, r0, rfl, h⟩ := h
  replace h := ocons_some h
  obtain ⟨a1, r1, rfl, h⟩ := h
  replace h := ocons_some h
  obtain ⟨a2, r2, rfl, h⟩ := h
  replace h := onil_some h
  obtain ⟨rfl, h⟩ := h
  obtain ⟨n0, qh0, h⟩ := obind_some h
  obtain ⟨least1, qh1, h⟩ := obind_some h
  obtain ⟨most2, qh2, h⟩ := obind_some h
  rw [argV_eq ok qh0, argV_eq ok qh1, argV_eq ok qh2]
  exact call_of (phiE_nat _ _) hs ok mixed Try.func119 (c := impl_in_code) (by kernel_rfl) (impl_in_lo n) (by kernel_rfl) (by kernel_rfl) (by kernel_rfl) impl_in_de ((impl_in_tie n n0 least1 most2).trans h)
noncomputable def impl_all_1_code : Code := match Try.f196.body with | some c => c | none => .skip
def impl_all_1_ann : Ann := fun id => none
def impl_all_1_Ls (n : Nat) : Nat → Option (LSpec T) := fun id => none
theorem impl_all_1_tie (n : Nat) (n0 : Int) (a1 : Int) (a2 : Int) : evF (T := T) (Phi n 15) (impl_all_1_Ls n) impl_all_1_ann n Try.f196 (sg 196) [vA T 3 n0, .ptr 3 a1, .ptr 3 a2] impl_all_1_dec = impl_all_1 n n0 a1 a2 := by kernel_rfl
theorem impl_all_1_lo (n : Nat) : LoopsOk (T := T) (Phi n 15) (impl_all_1_Ls n) impl_all_1_ann n impl_all_1_code := loopsOk_all (cs := []) (by kernel_rfl) trivial
theorem impl_all_1_ok (n : Nat) : EntOk Try.prog (ents n) (impl_all_1_ent n) := by
  intro hs ar y hg h
  replace h : impl_all_1_D n ar = some y := h
  unfold impl_all_1_D at h
  replace h := ocons_some h
  obtain ⟨a0, r0, rfl, h⟩ := h
  replace h := ocons_some h
  obtain ⟨a1, r1, rfl, h⟩ := h
  replace h := ocons_some h
  obtain ⟨a2, r2, rfl, h⟩ := h
  replace h := onil_some h
  obtain ⟨rfl, h⟩ := h
  obtain ⟨n0, qh0, h⟩ := obind_some h
  obtain ⟨a1, qh1, h⟩ := obind_some h
  obtain ⟨a2, qh2, h⟩ := obind_some h
  rw [argV_eq ok qh0, argP_eq qh1, argP_eq qh2]
  exact call_of (phiE_nat _ _) hs ok mixed Try.func196 (c := impl_all_1_code) (by kernel_rfl) (impl_all_1_lo n) (by kernel_rfl) (by kernel_rfl) (by kernel_rfl) impl_all_1_de ((impl_all_1_tie n n0 a1 a2).trans h)
noncomputable def slices_IndexFunc_int_int__impl_all_1_code : Code := match Try.f222.body with | some c => c | none => .skip
def slices_IndexFunc_int_int__impl_all_1_2_sv : List Sv := [.one (.arr 3), .one (.fnr 196 [3, 3]), .one (.int .i64), .one (.int .i64)]
def slices_IndexFunc_int_int__impl_all_1_2_so : List So := []
def slices_IndexFunc_int_int__impl_all_1_2_emb (c : List Int × Int × Int × Int) (x : Int) : EVs T slices_IndexFunc_int_int__impl_all_1_2_sv × EOs T slices_IndexFunc_int_int__impl_all_1_2_so := ((c.1, (c.2.1, c.2.2.1, ()), c.2.2.2, x, ()), ())
def slices_IndexFunc_int_int__impl_all_1_2_prj (y : EVs T slices_IndexFunc_int_int__impl_all_1_2_sv × EOs T slices_IndexFunc_int_int__impl_all_1_2_so) : (List Int × Int × Int × Int) × Int := ((y.1.1, y.1.2.1.1, y.1.2.1.2.1, y.1.2.2.1), (y.1.2.2.2.1))
def slices_IndexFunc_int_int__impl_all_1_2_b (n : Nat) {R : Type} (K : Ex → Sm.St T → Option R) (c : List Int × Int × Int × Int) (x : Int) (J : Int → Option R) : Option R :=
  slices_IndexFunc_int_int__impl_all_1_L2 n (K (.exit 0) (stOf (T := T) [] [] [] [] () ())) (fun (y0 : Int) => K .ret (stOf (T := T) [4] [] [.one (.int .i64)] [] (y0, ()) ())) J c.1 c.2.1 c.2.2.1 c.2.2.2 x
def slices_IndexFunc_int_int__impl_all_1_2_sp (n : Nat) : LSpec T := mkSpec T ⟨[], [0, 1, 7, 8], []⟩ slices_IndexFunc_int_int__impl_all_1_2_sv slices_IndexFunc_int_int__impl_all_1_2_so (List Int × Int × Int × Int) (Int) slices_IndexFunc_int_int__impl_all_1_2_emb slices_IndexFunc_int_int__impl_all_1_2_prj (slices_IndexFunc_int_int__impl_all_1_2_b n)
noncomputable def slices_IndexFunc_int_int__impl_all_1_2_c : Code := ((loopCodes slices_IndexFunc_int_int__impl_all_1_code)[0]?).getD .skip
def slices_IndexFunc_int_int__impl_all_1_ann : Ann := fun id => bif Nat.beq id 3000002 then some ⟨[], [], []⟩ else bif Nat.beq id 2000002 then some ⟨[], [4], []⟩ else none
def slices_IndexFunc_int_int__impl_all_1_Ls (n : Nat) : Nat → Option (LSpec T) := fun id => bif Nat.beq id 2 then some (slices_IndexFunc_int_int__impl_all_1_2_sp n) else none
theorem slices_IndexFunc_int_int__impl_all_1_2_le (n : Nat) : LoopEq (T := T) (Phi n 16) (slices_IndexFunc_int_int__impl_all_1_Ls n) slices_IndexFunc_int_int__impl_all_1_ann n slices_IndexFunc_int_int__impl_all_1_2_c (slices_IndexFunc_int_int__impl_all_1_2_sp n) := ⟨mkSpec_dec (fun y => rfl), fun c x => by kernel_rfl, fun K J c x => by kernel_rfl⟩
theorem slices_IndexFunc_int_int__impl_all_1_tie (n : Nat) (s0 : List Int) (f1c0 : Int) (f1c1 : Int) : evF (T := T) (Phi n 16) (slices_IndexFunc_int_int__impl_all_1_Ls n) slices_IndexFunc_int_int__impl_all_1_ann n Try.f222 (sg 222) [vA T 55 s0, .fn 196 [.ptr 3 f1c0, .ptr 3 f1c1]] slices_IndexFunc_int_int__impl_all_1_dec = slices_IndexFunc_int_int__impl_all_1 n s0 f1c0 f1c1 := by kernel_rfl
theorem slices_IndexFunc_int_int__impl_all_1_lo (n : Nat) : LoopsOk (T := T) (Phi n 16) (slices_IndexFunc_int_int__impl_all_1_Ls n) slices_IndexFunc_int_int__impl_all_1_ann n slices_IndexFunc_int_int__impl_all_1_code := loopsOk_all (cs := [slices_IndexFunc_int_int__impl_all_1_2_c]) (by kernel_rfl) ⟨⟨_, by kernel_rfl, slices_IndexFunc_int_int__impl_all_1_2_le n⟩, trivial⟩
theorem slices_IndexFunc_int_int__impl_all_1_ok (n : Nat) : EntOk Try.prog (ents n) (slices_IndexFunc_int_int__impl_all_1_ent n) := by
  intro hs ar y hg h
  replace h : slices_IndexFunc_int_int__impl_all_1_D n ar = some y := h
  unfold slices_IndexFunc_int_int__impl_all_1_D at h
  split at h
  · obtain ⟨s0, qh0, h⟩ := obind_some h
    obtain ⟨f1c0, qh1, h⟩ := obind_some h
    obtain ⟨f1c1, qh2, h⟩ := obind_some h
    rw [argV_eq ok qh0, argP_eq qh1, argP_eq qh2] at hg ⊢
    cases (show [_] = [196] from natsEq_eq hg)
    exact call_of (phiE_nat _ _) hs ok mixed Try.func222 (c := slices_IndexFunc_int_int__impl_all_1_code) (by kernel_rfl) (slices_IndexFunc_int_int__impl_all_1_lo n) (by kernel_rfl) (by kernel_rfl) (by kernel_rfl) slices_IndexFunc_int_int__impl_all_1_de ((slices_IndexFunc_int_int__impl_all_1_tie n s0 f1c0 f1c1).trans h)
  · cases h
noncomputable def slices_ContainsFunc_int_int__impl_all_1_code : Code := match Try.f158.body with | some c => c | none => .skip
def slices_ContainsFunc_int_int__impl_all_1_ann : Ann := fun id => none
def slices_ContainsFunc_int_int__impl_all_1_Ls (n : Nat) : Nat → Option (LSpec T) := fun id => none
theorem slices_ContainsFunc_int_int__impl_all_1_tie (n : Nat) (s0 : List Int) (f1c0 : Int) (f1c1 : Int) : evF (T := T) (Phi n 17) (slices_ContainsFunc_int_int__impl_all_1_Ls n) slices_ContainsFunc_int_int__impl_all_1_ann n Try.f158 (sg 158) [vA T 55 s0, .fn 196 [.ptr 3 f1c0, .ptr 3 f1c1]] slices_ContainsFunc_int_int__impl_all_1_dec = slices_ContainsFunc_int_int__impl_all_1 n s0 f1c0 f1c1 := by kernel_rfl
theorem slices_ContainsFunc_int_int__impl_all_1_lo (n : Nat) : LoopsOk (T := T) (Phi n 17) (slices_ContainsFunc_int_int__impl_all_1_Ls n) slices_ContainsFunc_int_int__impl_all_1_ann n slices_ContainsFunc_int_int__impl_all_1_code := loopsOk_all (cs := []) (by kernel_rfl) trivial
theorem slices_ContainsFunc_int_int__impl_all_1_ok (n : Nat) : EntOk Try.prog (ents n) (slices_ContainsFunc_int_int__impl_all_1_ent n) := by
  intro hs ar y hg h
  replace h : slices_ContainsFunc_int_int__impl_all_1_D n ar = some y := h
  unfold slices_ContainsFunc_int_int__impl_all_1_D at h
  split at h
  · obtain ⟨s0, qh0, h⟩ := obind_some h
    obtain ⟨f1c0, qh1, h⟩ := obind_some h
    obtain ⟨f1c1, qh2, h⟩ := obind_some h
    rw [argV_eq ok qh0, argP_eq qh1, argP_eq qh2] at hg ⊢
    cases (show [_] = [196] from natsEq_eq hg)
    exact call_of (phiE_nat _ _) hs ok mixed Try.func158 (c := slices_ContainsFunc_int_int__impl_all_1_code) (by kernel_rfl) (slices_ContainsFunc_int_int__impl_all_1_lo n) (by kernel_rfl) (by kernel_rfl) (by kernel_rfl) slices_ContainsFunc_int_int__impl_all_1_de ((slices_ContainsFunc_int_int__impl_all_1_tie n s0 f1c0 f1c1).trans h)
  · cases h
noncomputable def impl_all_code : Code := match Try.f120.body with | some c => c | none => .skip
def impl_all_ann : Ann := fun id => none
def impl_all_Ls (n : Nat) : Nat → Option (LSpec T) := fun id => none
theorem impl_all_tie (n : Nat) (l0 : List Int) (least1 : Int) (most2 : Int) : evF (T := T) (Phi n 18) (impl_all_Ls n) impl_all_ann n Try.f120 (sg 120) [vA T 55 l0, vA T 3 least1, vA T 3 most2] impl_all_dec = impl_all n l0 least1 most2 := by kernel_rfl
theorem impl_all_lo (n : Nat) : LoopsOk (T := T) (Phi n 18) (impl_all_Ls n) impl_all_ann n impl_all_code := loopsOk_all (cs := []) (by kernel_rfl) trivial
theorem impl_all_ok (n : Nat) : EntOk Try.prog (ents n) (impl_all_ent n) := by
  intro hs ar y hg h
  replace h : impl_all_D n ar = some y := h
  unfold impl_all_D at h
  replace h := ocons_some h
  obtain ⟨a0, r0, rfl, h⟩ := h
  replace h := ocons_some h
  obtain ⟨a1, r1, rfl, h⟩ := h
  replace h := ocons_some h
  obtain ⟨a2, r2, rfl, h⟩ := h
  replace h := onil_some h
  obtain ⟨rfl, h⟩ := h
  obtain ⟨l0, qh0, h⟩ := obind_some h
  obtain ⟨least1, qh1, h⟩ := obind_some h
  obtain ⟨most2, qh2, h⟩ := obind_some h
  rw [argV_eq ok qh0, argV_eq ok qh1, argV_eq ok qh2]
  exact call_of (phiE_nat _ _) hs ok mixed Try.func120 (c := impl_all_code) (by kernel_rfl) (impl_all_lo n) (by kernel_rfl) (by kernel_rfl) (by kernel_rfl) impl_all_de ((impl_all_tie n l0 least1 most2).trans h)
noncomputable def impl_Chart_place_code : Code := match Try.f122.body with | some c => c | none => .skip
def impl_Chart_place_ann : Ann := fun id => none
def impl_Chart_place_Ls (n : Nat) : Nat → Option (LSpec T) := fun id => none
theorem impl_Chart_place_tie (n : Nat) (c0 : SChart) (x1 : Int) (y2 : Int) : evF (T := T) (Phi n 19) (impl_Chart_place_Ls n) impl_Chart_place_ann n Try.f122 (sg 122) [vA T 63 c0, vA T 3 x1, vA T 3 y2] impl_Chart_place_dec = impl_Chart_place n c0 x1 y2 := by kernel_rfl
theorem impl_Chart_place_lo (n : Nat) : LoopsOk (T := T) (Phi n 19) (impl_Chart_place_Ls n) impl_Chart_place_ann n impl_Chart_place_code := loopsOk_all (cs := []) (by kernel_rfl) trivial
theorem impl_Chart_place_ok (n : Nat) : EntOk Try.prog (ents n) (impl_Chart_place_ent n) := by
  intro hs ar y hg h
  replace h : impl_Chart_place_D n ar = some y := h
  unfold impl_Chart_place_D at h
  replace h := ocons_some h
  obtain ⟨a0, r0, rfl, h⟩ := h
  replace h := ocons_some h
  obtain ⟨a1, r1, rfl, h⟩ := h
  replace h := ocons_some h
  obtain ⟨a2, r2, rfl, h⟩ := h
  replace h := onil_some h
  obtain ⟨rfl, h⟩ := h
  obtain ⟨c0, qh0, h⟩ := obind_some h
  obtain ⟨x1, qh1, h⟩ := obind_some h
  obtain ⟨y2, qh2, h⟩ := obind_some h
  rw [argV_eq ok qh0, argV_eq ok qh1, argV_eq ok qh2]
  exact call_of (phiE_nat _ _) hs ok mixed Try.func122 (c := impl_Chart_place_code) (by kernel_rfl) (impl_Chart_place_lo n) (by kernel_rfl) (by kernel_rfl) (by kernel_rfl) impl_Chart_place_de ((impl_Chart_place_tie n c0 x1 y2).trans h)
noncomputable def impl_Chart_featureOk_code : Code := match Try.f121.body with | some c => c | none => .skip
def impl_Chart_featureOk_ann : Ann := fun id => none
def impl_Chart_featureOk_Ls (n : Nat) : Nat → Option (LSpec T) := fun id => none
theorem impl_Chart_featureOk_tie (n : Nat) (c0 : SChart) (f1 : SFeature) : evF (T := T) (Phi n 20) (impl_Chart_featureOk_Ls n) impl_Chart_featureOk_ann n Try.f121 (sg 121) [vA T 63 c0, vA T 181 f1] impl_Chart_featureOk_dec = impl_Chart_featureOk n c0 f1 := by kernel_rfl
theorem impl_Chart_featureOk_lo (n : Nat) : LoopsOk (T := T) (Phi n 20) (impl_Chart_featureOk_Ls n) impl_Chart_featureOk_ann n impl_Chart_featureOk_code := loopsOk_all (cs := []) (by kernel_rfl) trivial
theorem impl_Chart_featureOk_ok (n : Nat) : EntOk Try.prog (ents n) (impl_Chart_featureOk_ent n) := by
  intro hs ar y hg h
  replace h : impl_Chart_featureOk_D n ar = some y := h
  unfold impl_Chart_featureOk_D at h
  replace h := ocons_some h
  obtain ⟨a0, r0, rfl, h⟩ := h
  replace h := ocons_some h
  obtain ⟨a1, r1, rfl, h⟩ := h
  replace h := onil_some h
  obtain ⟨rfl, h⟩ := h
  obtain ⟨c0, qh0, h⟩ := obind_some h
  obtain ⟨f1, qh1, h⟩ := obind_some h
  rw [argV_eq ok qh0, argV_eq ok qh1]
  exact call_of (phiE_nat _ _) hs ok mixed Try.func121 (c := impl_Chart_featureOk_code) (by kernel_rfl) (impl_Chart_featureOk_lo n) (by kernel_rfl) (by kernel_rfl) (by kernel_rfl) impl_Chart_featureOk_de ((impl_Chart_featureOk_tie n c0 f1).trans h)
noncomputable def impl_ChartOk_code : Code := match Try.f44.body with | some c => c | none => .skip
def impl_ChartOk_4_sv : List Sv := [.one (.ptr 8 0 0), .one (.arr 181), .one (.int .i64), .one (.int .i64)]
def impl_ChartOk_4_so : List So := [.var [.int .i64, .int .i64, .arr 3, .arr 181, .int .i64]]
def impl_ChartOk_4_emb (c : List SFeature × Int × SChart) (x : Int) : EVs T impl_ChartOk_4_sv × EOs T impl_ChartOk_4_so := (((), c.1, c.2.1, x, ()), ((c.2.2.Wide, c.2.2.High, c.2.2.Depths, c.2.2.Features, c.2.2.Edition, ()), ()))
def impl_ChartOk_4_prj (y : EVs T impl_ChartOk_4_sv × EOs T impl_ChartOk_4_so) : (List SFeature × Int × SChart) × Int := ((y.1.2.1, y.1.2.2.1, ((⟨y.2.1.1, y.2.1.2.1, y.2.1.2.2.1, y.2.1.2.2.2.1, y.2.1.2.2.2.2.1⟩ : SChart) : SChart)), (y.1.2.2.2.1))
def impl_ChartOk_4_b (n : Nat) {R : Type} (K : Ex → Sm.St T → Option R) (c : List SFeature × Int × SChart) (x : Int) (J : Int → Option R) : Option R :=
  impl_ChartOk_L4 n (K (.exit 0) (stOf (T := T) [] [] [] [] () ())) (fun (y0 : Bool) => K .ret (stOf (T := T) [2] [] [.one (.bool)] [] (y0, ()) ())) J c.1 c.2.1 x c.2.2
def impl_ChartOk_4_sp (n : Nat) : LSpec T := mkSpec T ⟨[], [1, 45, 46, 47], [8]⟩ impl_ChartOk_4_sv impl_ChartOk_4_so (List SFeature × Int × SChart) (Int) impl_ChartOk_4_emb impl_ChartOk_4_prj (impl_ChartOk_4_b n)
noncomputable def impl_ChartOk_4_c : Code := ((loopCodes impl_ChartOk_code)[0]?).getD .skip
def impl_ChartOk_ann : Ann := fun id => bif Nat.beq id 3000004 then some ⟨[], [], []⟩ else bif Nat.beq id 2000004 then some ⟨[], [2], []⟩ else none
def impl_ChartOk_Ls (n : Nat) : Nat → Option (LSpec T) := fun id => bif Nat.beq id 4 then some (impl_ChartOk_4_sp n) else none
theorem impl_ChartOk_4_le (n : Nat) : LoopEq (T := T) (Phi n 21) (impl_ChartOk_Ls n) impl_ChartOk_ann n impl_ChartOk_4_c (impl_ChartOk_4_sp n) := ⟨mkSpec_dec (fun y => rfl), fun c x => by kernel_rfl, fun K J c x => by kernel_rfl⟩
theorem impl_ChartOk_tie (n : Nat) (c0 : SChart) : evF (T := T) (Phi n 21) (impl_ChartOk_Ls n) impl_ChartOk_ann n Try.f44 (sg 44) [vA T 63 c0] impl_ChartOk_dec = impl_ChartOk n c0 := by kernel_rfl
theorem impl_ChartOk_lo (n : Nat) : LoopsOk (T := T) (Phi n 21) (impl_ChartOk_Ls n) impl_ChartOk_ann n impl_ChartOk_code := loopsOk_all (cs := [impl_ChartOk_4_c]) (by kernel_rfl) ⟨⟨_, by kernel_rfl, impl_ChartOk_4_le n⟩, trivial⟩
theorem impl_ChartOk_ok (n : Nat) : EntOk Try.prog (ents n) (impl_ChartOk_ent n) := by
  intro hs ar y hg h
  replace h : impl_ChartOk_D n ar = some y := h
  unfold impl_ChartOk_D at h
  replace h := ocons_some h
  obtain ⟨a0, r0, rfl, h⟩ := h
  replace h := onil_some h
  obtain ⟨rfl, h⟩ := h
  obtain ⟨c0, qh0, h⟩ := obind_some h
  rw [argV_eq ok qh0]
  exact call_of (phiE_nat _ _) hs ok mixed Try.func44 (c := impl_ChartOk_code) (by kernel_rfl) (impl_ChartOk_lo n) (by kernel_rfl) (by kernel_rfl) (by kernel_rfl) impl_ChartOk_de ((impl_ChartOk_tie n c0).trans h)
noncomputable def impl_own_int_code : Code := match Try.f104.body with | some c => c | none => .skip
def impl_own_int_ann : Ann := fun id => none
def impl_own_int_Ls (n : Nat) : Nat → Option (LSpec T) := fun id => none
theorem impl_own_int_tie (n : Nat) (l0 : List Int) : evF (T := T) (Phi n 22) (impl_own_int_Ls n) impl_own_int_ann n Try.f104 (sg 104) [vA T 55 l0] impl_own_int_dec = impl_own_int n l0 := by kernel_rfl
theorem impl_own_int_lo (n : Nat) : LoopsOk (T := T) (Phi n 22) (impl_own_int_Ls n) impl_own_int_ann n impl_own_int_code := loopsOk_all (cs := []) (by kernel_rfl) trivial
theorem impl_own_int_ok (n : Nat) : EntOk Try.prog (ents n) (impl_own_int_ent n) := by
  intro hs ar y hg h
  replace h : impl_own_int_D n ar = some y := h
  unfold impl_own_int_D at h
  replace h := ocons_some h
  obtain ⟨a0, r0, rfl, h⟩ := h
  replace h := onil_some h
  obtain ⟨rfl, h⟩ := h
  obtain ⟨l0, qh0, h⟩ := obind_some h
  rw [argV_eq ok qh0]
  exact call_of (phiE_nat _ _) hs ok mixed Try.func104 (c := impl_own_int_code) (by kernel_rfl) (impl_own_int_lo n) (by kernel_rfl) (by kernel_rfl) (by kernel_rfl) impl_own_int_de ((impl_own_int_tie n l0).trans h)
noncomputable def impl_Shoals_code : Code := match Try.f36.body with | some c => c | none => .skip
def impl_Shoals_5_sv : List Sv := [.one (.int .i64), .one (.own 3000000 3 false), .one (.arr 3), .one (.int .i64), .one (.int .i64)]
def impl_Shoals_5_so : List So := [.arr 3 false]
def impl_Shoals_5_emb (c : Int × List Int × Int) (x : Int × List Int) : EVs T impl_Shoals_5_sv × EOs T impl_Shoals_5_so := ((c.1, (), c.2.1, c.2.2, x.1, ()), (x.2, ()))
def impl_Shoals_5_prj (y : EVs T impl_Shoals_5_sv × EOs T impl_Shoals_5_so) : (Int × List Int × Int) × (Int × List Int) := ((y.1.1, y.1.2.2.1, y.1.2.2.2.1), (y.1.2.2.2.2.1, y.2.1))
def impl_Shoals_5_b (n : Nat) {R : Type} (K : Ex → Sm.St T → Option R) (c : Int × List Int × Int) (x : Int × List Int) (J : (Int × List Int) → Option R) : Option R :=
  impl_Shoals_L5 n (fun (y0 : List Int) => K (.exit 0) (stOf (T := T) [5] [3000000] [.one (.own 3000000 3 false)] [.arr 3 false] ((), ()) (y0, ()))) (fun z0 z1 => J (z0, z1)) c.1 c.2.1 c.2.2 x.1 x.2
def impl_Shoals_5_sp (n : Nat) : LSpec T := mkSpec T ⟨[((.reg 5), 3000000, 3)], [1, 5, 12, 13, 14], [3000000]⟩ impl_Shoals_5_sv impl_Shoals_5_so (Int × List Int × Int) (Int × List Int) impl_Shoals_5_emb impl_Shoals_5_prj (impl_Shoals_5_b n)
noncomputable def impl_Shoals_5_c : Code := ((loopCodes impl_Shoals_code)[0]?).getD .skip
def impl_Shoals_ann : Ann := fun id => bif Nat.beq id 3000005 then some ⟨[((.reg 5), 3000000, 3)], [5], [3000000]⟩ else none
def impl_Shoals_Ls (n : Nat) : Nat → Option (LSpec T) := fun id => bif Nat.beq id 5 then some (impl_Shoals_5_sp n) else none
theorem impl_Shoals_5_le (n : Nat) : LoopEq (T := T) (Phi n 23) (impl_Shoals_Ls n) impl_Shoals_ann n impl_Shoals_5_c (impl_Shoals_5_sp n) := ⟨mkSpec_dec (fun y => rfl), fun c x => by kernel_rfl, fun K J c x => by kernel_rfl⟩
theorem impl_Shoals_tie (n : Nat) (c0 : SChart) (need1 : Int) : evF (T := T) (Phi n 23) (impl_Shoals_Ls n) impl_Shoals_ann n Try.f36 (sg 36) [vA T 63 c0, vA T 3 need1] impl_Shoals_dec = impl_Shoals n c0 need1 := by kernel_rfl
theorem impl_Shoals_lo (n : Nat) : LoopsOk (T := T) (Phi n 23) (impl_Shoals_Ls n) impl_Shoals_ann n impl_Shoals_code := loopsOk_all (cs := [impl_Shoals_5_c]) (by kernel_rfl) ⟨⟨_, by kernel_rfl, impl_Shoals_5_le n⟩, trivial⟩
theorem impl_Shoals_ok (n : Nat) : EntOk Try.prog (ents n) (impl_Shoals_ent n) := by
  intro hs ar y hg h
  replace h : impl_Shoals_D n ar = some y := h
  unfold impl_Shoals_D at h
  replace h := ocons_some h
  obtain ⟨a0, r0, rfl, h⟩ := h
  replace h := ocons_some h
  obtain ⟨a1, r1, rfl, h⟩ := h
  replace h := onil_some h
  obtain ⟨rfl, h⟩ := h
  obtain ⟨c0, qh0, h⟩ := obind_some h
  obtain ⟨need1, qh1, h⟩ := obind_some h
  rw [argV_eq ok qh0, argV_eq ok qh1]
  exact call_of (phiE_nat _ _) hs ok mixed Try.func36 (c := impl_Shoals_code) (by kernel_rfl) (impl_Shoals_lo n) (by kernel_rfl) (by kernel_rfl) (by kernel_rfl) impl_Shoals_de ((impl_Shoals_tie n c0 need1).trans h)
noncomputable def impl_DepthAt_code : Code := match Try.f45.body with | some c => c | none => .skip
def impl_DepthAt_ann : Ann := fun id => none
def impl_DepthAt_Ls (n : Nat) : Nat → Option (LSpec T) := fun id => none
theorem impl_DepthAt_tie (n : Nat) (c0 : SChart) (x1 : Int) (y2 : Int) : evF (T := T) (Phi n 24) (impl_DepthAt_Ls n) impl_DepthAt_ann n Try.f45 (sg 45) [vA T 63 c0, vA T 3 x1, vA T 3 y2] impl_DepthAt_dec = impl_DepthAt n c0 x1 y2 := by kernel_rfl
theorem impl_DepthAt_lo (n : Nat) : LoopsOk (T := T) (Phi n 24) (impl_DepthAt_Ls n) impl_DepthAt_ann n impl_DepthAt_code := loopsOk_all (cs := []) (by kernel_rfl) trivial
theorem impl_DepthAt_ok (n : Nat) : EntOk Try.prog (ents n) (impl_DepthAt_ent n) := by
  intro hs ar y hg h
  replace h : impl_DepthAt_D n ar = some y := h
  unfold impl_DepthAt_D at h
  replace h := ocons_some h
  obtain ⟨a0, r0, rfl, h⟩ := h
  replace h := ocons_some h
  obtain ⟨a1, r1, rfl, h⟩ := h
  replace h := ocons_some h
  obtain ⟨a2, r2, rfl, h⟩ := h
  replace h := onil_some h
  obtain ⟨rfl, h⟩ := h
  obtain ⟨c0, qh0, h⟩ := obind_some h
  obtain ⟨x1, qh1, h⟩ := obind_some h
  obtain ⟨y2, qh2, h⟩ := obind_some h
  rw [argV_eq ok qh0, argV_eq ok qh1, argV_eq ok qh2]
  exact call_of (phiE_nat _ _) hs ok mixed Try.func45 (c := impl_DepthAt_code) (by kernel_rfl) (impl_DepthAt_lo n) (by kernel_rfl) (by kernel_rfl) (by kernel_rfl) impl_DepthAt_de ((impl_DepthAt_tie n c0 x1 y2).trans h)
noncomputable def laws_within_code : Code := match Try.f46.body with | some c => c | none => .skip
def laws_within_2_sv : List Sv := [.one (.arr 3), .one (.int .i64), .one (.int .i64)]
def laws_within_2_so : List So := []
def laws_within_2_emb (c : List Int × Int) (x : Int) : EVs T laws_within_2_sv × EOs T laws_within_2_so := ((c.1, c.2, x, ()), ())
def laws_within_2_prj (y : EVs T laws_within_2_sv × EOs T laws_within_2_so) : (List Int × Int) × Int := ((y.1.1, y.1.2.1), (y.1.2.2.1))
def laws_within_2_b (n : Nat) {R : Type} (K : Ex → Sm.St T → Option R) (c : List Int × Int) (x : Int) (J : Int → Option R) : Option R :=
  laws_within_L2 n (K (.exit 0) (stOf (T := T) [] [] [] [] () ())) (fun (y0 : Bool) => K .ret (stOf (T := T) [4] [] [.one (.bool)] [] (y0, ()) ())) J c.1 c.2 x
def laws_within_2_sp (n : Nat) : LSpec T := mkSpec T ⟨[], [0, 1, 5], []⟩ laws_within_2_sv laws_within_2_so (List Int × Int) (Int) laws_within_2_emb laws_within_2_prj (laws_within_2_b n)
noncomputable def laws_within_2_c : Code := ((loopCodes laws_within_code)[0]?).getD .skip
def laws_within_ann : Ann := fun id => bif Nat.beq id 3000002 then some ⟨[], [], []⟩ else bif Nat.beq id 2000002 then some ⟨[], [4], []⟩ else none
def laws_within_Ls (n : Nat) : Nat → Option (LSpec T) := fun id => bif Nat.beq id 2 then some (laws_within_2_sp n) else none
theorem laws_within_2_le (n : Nat) : LoopEq (T := T) (Phi n 25) (laws_within_Ls n) laws_within_ann n laws_within_2_c (laws_within_2_sp n) := ⟨mkSpec_dec (fun y => rfl), fun c x => by kernel_rfl, fun K J c x => by kernel_rfl⟩
theorem laws_within_tie (n : Nat) (list0 : List Int) (x1 : Int) : evF (T := T) (Phi n 25) (laws_within_Ls n) laws_within_ann n Try.f46 (sg 46) [vA T 55 list0, vA T 3 x1] laws_within_dec = laws_within n list0 x1 := by kernel_rfl
theorem laws_within_lo (n : Nat) : LoopsOk (T := T) (Phi n 25) (laws_within_Ls n) laws_within_ann n laws_within_code := loopsOk_all (cs := [laws_within_2_c]) (by kernel_rfl) ⟨⟨_, by kernel_rfl, laws_within_2_le n⟩, trivial⟩
theorem laws_within_ok (n : Nat) : EntOk Try.prog (ents n) (laws_within_ent n) := by
  intro hs ar y hg h
  replace h : laws_within_D n ar = some y := h
  unfold laws_within_D at h
  replace h := ocons_some h
  obtain ⟨a0, r0, rfl, h⟩ := h
  replace h := ocons_some h
  obtain ⟨a1, r1, rfl, h⟩ := h
  replace h := onil_some h
  obtain ⟨rfl, h⟩ := h
  obtain ⟨list0, qh0, h⟩ := obind_some h
  obtain ⟨x1, qh1, h⟩ := obind_some h
  rw [argV_eq ok qh0, argV_eq ok qh1]
  exact call_of (phiE_nat _ _) hs ok mixed Try.func46 (c := laws_within_code) (by kernel_rfl) (laws_within_lo n) (by kernel_rfl) (by kernel_rfl) (by kernel_rfl) laws_within_de ((laws_within_tie n list0 x1).trans h)
noncomputable def impl_size_code : Code := match Try.f123.body with | some c => c | none => .skip
def impl_size_ann : Ann := fun id => none
def impl_size_Ls (n : Nat) : Nat → Option (LSpec T) := fun id => none
theorem impl_size_tie (n : Nat) (n0 : Int) : evF (T := T) (Phi n 26) (impl_size_Ls n) impl_size_ann n Try.f123 (sg 123) [vA T 3 n0] impl_size_dec = impl_size n n0 := by kernel_rfl
theorem impl_size_lo (n : Nat) : LoopsOk (T := T) (Phi n 26) (impl_size_Ls n) impl_size_ann n impl_size_code := loopsOk_all (cs := []) (by kernel_rfl) trivial
theorem impl_size_ok (n : Nat) : EntOk Try.prog (ents n) (impl_size_ent n) := by
  intro hs ar y hg h
  replace h : impl_size_D n ar = some y := h
  unfold impl_size_D at h
  replace h := ocons_some h
  obtain ⟨a0, r0, rfl, h⟩ := h
  replace h := onil_some h
  obtain ⟨rfl, h⟩ := h
  obtain ⟨n0, qh0, h⟩ := obind_some h
  rw [argV_eq ok qh0]
  exact call_of (phiE_nat _ _) hs ok mixed Try.func123 (c := impl_size_code) (by kernel_rfl) (impl_size_lo n) (by kernel_rfl) (by kernel_rfl) (by kernel_rfl) impl_size_de ((impl_size_tie n n0).trans h)
noncomputable def cmp_isNaN_int_code : Code := match Try.f248.body with | some c => c | none => .skip
def cmp_isNaN_int_ann : Ann := fun id => none
def cmp_isNaN_int_Ls (n : Nat) : Nat → Option (LSpec T) := fun id => none
theorem cmp_isNaN_int_tie (n : Nat) (x0 : Int) : evF (T := T) (Phi n 27) (cmp_isNaN_int_Ls n) cmp_isNaN_int_ann n Try.f248 (sg 248) [vA T 3 x0] cmp_isNaN_int_dec = cmp_isNaN_int n x0 := by kernel_rfl
theorem cmp_isNaN_int_lo (n : Nat) : LoopsOk (T := T) (Phi n 27) (cmp_isNaN_int_Ls n) cmp_isNaN_int_ann n cmp_isNaN_int_code := loopsOk_all (cs := []) (by kernel_rfl) trivial
theorem cmp_isNaN_int_ok (n : Nat) : EntOk Try.prog (ents n) (cmp_isNaN_int_ent n) := by
  intro hs ar y hg h
  replace h : cmp_isNaN_int_D n ar = some y := h
  unfold cmp_isNaN_int_D at h
  replace h := ocons_some h
  obtain ⟨a0, r0, rfl, h⟩ := h
  replace h := onil_some h
  obtain ⟨rfl, h⟩ := h
  obtain ⟨x0, qh0, h⟩ := obind_some h
  rw [argV_eq ok qh0]
  exact call_of (phiE_nat _ _) hs ok mixed Try.func248 (c := cmp_isNaN_int_code) (by kernel_rfl) (cmp_isNaN_int_lo n) (by kernel_rfl) (by kernel_rfl) (by kernel_rfl) cmp_isNaN_int_de ((cmp_isNaN_int_tie n x0).trans h)
noncomputable def cmp_Compare_int_code : Code := match Try.f199.body with | some c => c | none => .skip
def cmp_Compare_int_ann : Ann := fun id => none
def cmp_Compare_int_Ls (n : Nat) : Nat → Option (LSpec T) := fun id => none
theorem cmp_Compare_int_tie (n : Nat) (x0 : Int) (y1 : Int) : evF (T := T) (Phi n 28) (cmp_Compare_int_Ls n) cmp_Compare_int_ann n Try.f199 (sg 199) [vA T 3 x0, vA T 3 y1] cmp_Compare_int_dec = cmp_Compare_int n x0 y1 := by kernel_rfl
theorem cmp_Compare_int_lo (n : Nat) : LoopsOk (T := T) (Phi n 28) (cmp_Compare_int_Ls n) cmp_Compare_int_ann n cmp_Compare_int_code := loopsOk_all (cs := []) (by kernel_rfl) trivial
theorem cmp_Compare_int_ok (n : Nat) : EntOk Try.prog (ents n) (cmp_Compare_int_ent n) := by
  intro hs ar y hg h
  replace h : cmp_Compare_int_D n ar = some y := h
  unfold cmp_Compare_int_D at h
  replace h := ocons_some h
  obtain ⟨a0, r0, rfl, h⟩ := h
  replace h := ocons_some h
  obtain ⟨a1, r1, rfl, h⟩ := h
  replace h := onil_some h
  obtain ⟨rfl, h⟩ := h
  obtain ⟨x0, qh0, h⟩ := obind_some h
  obtain ⟨y1, qh1, h⟩ := obind_some h
  rw [argV_eq ok qh0, argV_eq ok qh1]
  exact call_of (phiE_nat _ _) hs ok mixed Try.func199 (c := cmp_Compare_int_code) (by kernel_rfl) (cmp_Compare_int_lo n) (by kernel_rfl) (by kernel_rfl) (by kernel_rfl) cmp_Compare_int_de ((cmp_Compare_int_tie n x0 y1).trans h)
noncomputable def slices_Compare_int_int_code : Code := match Try.f126.body with | some c => c | none => .skip
def slices_Compare_int_int_2_sv : List Sv := [.one (.arr 3), .one (.arr 3), .one (.arr 3), .one (.int .i64), .one (.int .i64)]
def slices_Compare_int_int_2_so : List So := []
def slices_Compare_int_int_2_emb (c : List Int × List Int × List Int × Int) (x : Int) : EVs T slices_Compare_int_int_2_sv × EOs T slices_Compare_int_int_2_so := ((c.1, c.2.1, c.2.2.1, c.2.2.2, x, ()), ())
def slices_Compare_int_int_2_prj (y : EVs T slices_Compare_int_int_2_sv × EOs T slices_Compare_int_int_2_so) : (List Int × List Int × List Int × Int) × Int := ((y.1.1, y.1.2.1, y.1.2.2.1, y.1.2.2.2.1), (y.1.2.2.2.2.1))
def slices_Compare_int_int_2_b (n : Nat) {R : Type} (K : Ex → Sm.St T → Option R) (c : List Int × List Int × List Int × Int) (x : Int) (J : Int → Option R) : Option R :=
  slices_Compare_int_int_L2 n (K (.exit 0) (stOf (T := T) [0, 1] [] [.one (.arr 3), .one (.arr 3)] [] (c.1, c.2.1, ()) ())) (fun (y0 : Int) => K .ret (stOf (T := T) [4] [] [.one (.int .i64)] [] (y0, ()) ())) J c.1 c.2.1 c.2.2.1 c.2.2.2 x
def slices_Compare_int_int_2_sp (n : Nat) : LSpec T := mkSpec T ⟨[], [0, 1, 9, 10, 11], []⟩ slices_Compare_int_int_2_sv slices_Compare_int_int_2_so (List Int × List Int × List Int × Int) (Int) slices_Compare_int_int_2_emb slices_Compare_int_int_2_prj (slices_Compare_int_int_2_b n)
noncomputable def slices_Compare_int_int_2_c : Code := ((loopCodes slices_Compare_int_int_code)[0]?).getD .skip
def slices_Compare_int_int_ann : Ann := fun id => bif Nat.beq id 3000002 then some ⟨[], [0, 1], []⟩ else bif Nat.beq id 2000002 then some ⟨[], [4], []⟩ else none
def slices_Compare_int_int_Ls (n : Nat) : Nat → Option (LSpec T) := fun id => bif Nat.beq id 2 then some (slices_Compare_int_int_2_sp n) else none
theorem slices_Compare_int_int_2_le (n : Nat) : LoopEq (T := T) (Phi n 29) (slices_Compare_int_int_Ls n) slices_Compare_int_int_ann n slices_Compare_int_int_2_c (slices_Compare_int_int_2_sp n) := ⟨mkSpec_dec (fun y => rfl), fun c x => by kernel_rfl, fun K J c x => by kernel_rfl⟩
theorem slices_Compare_int_int_tie (n : Nat) (s10 : List Int) (s21 : List Int) : evF (T := T) (Phi n 29) (slices_Compare_int_int_Ls n) slices_Compare_int_int_ann n Try.f126 (sg 126) [vA T 55 s10, vA T 55 s21] slices_Compare_int_int_dec = slices_Compare_int_int n s10 s21 := by kernel_rfl
theorem slices_Compare_int_int_lo (n : Nat) : LoopsOk (T := T) (Phi n 29) (slices_Compare_int_int_Ls n) slices_Compare_int_int_ann n slices_Compare_int_int_code := loopsOk_all (cs := [slices_Compare_int_int_2_c]) (by kernel_rfl) ⟨⟨_, by kernel_rfl, slices_Compare_int_int_2_le n⟩, trivial⟩
theorem slices_Compare_int_int_ok (n : Nat) : EntOk Try.prog (ents n) (slices_Compare_int_int_ent n) := by
  intro hs ar y hg h
  replace h : slices_Compare_int_int_D n ar = some y := h
  unfold slices_Compare_int_int_D at h
  replace h := ocons_some h
  obtain ⟨a0, r0, rfl, h⟩ := h
  replace h := ocons_some h
  obtain ⟨a1, r1, rfl, h⟩ := h
  replace h := onil_some h
  obtain ⟨rfl, h⟩ := h
  obtain ⟨s10, qh0, h⟩ := obind_some h
  obtain ⟨s21, qh1, h⟩ := obind_some h
  rw [argV_eq ok qh0, argV_eq ok qh1]
  exact call_of (phiE_nat _ _) hs ok mixed Try.func126 (c := slices_Compare_int_int_code) (by kernel_rfl) (slices_Compare_int_int_lo n) (by kernel_rfl) (by kernel_rfl) (by kernel_rfl) slices_Compare_int_int_de ((slices_Compare_int_int_tie n s10 s21).trans h)
noncomputable def impl_Near6_1_code : Code := match Try.f125.body with | some c => c | none => .skip
def impl_Near6_1_ann : Ann := fun id => none
def impl_Near6_1_Ls (n : Nat) : Nat → Option (LSpec T) := fun id => none
theorem impl_Near6_1_tie (n : Nat) (a0 : SArr2_Int) (b1 : SArr2_Int) : evF (T := T) (Phi n 30) (impl_Near6_1_Ls n) impl_Near6_1_ann n Try.f125 (sg 125) [vA T 186 a0, vA T 186 b1] impl_Near6_1_dec = impl_Near6_1 n a0 b1 := by kernel_rfl
theorem impl_Near6_1_lo (n : Nat) : LoopsOk (T := T) (Phi n 30) (impl_Near6_1_Ls n) impl_Near6_1_ann n impl_Near6_1_code := loopsOk_all (cs := []) (by kernel_rfl) trivial
theorem impl_Near6_1_ok (n : Nat) : EntOk Try.prog (ents n) (impl_Near6_1_ent n) := by
  intro hs ar y hg h
  replace h : impl_Near6_1_D n ar = some y := h
  unfold impl_Near6_1_D at h
  replace h := ocons_some h
  obtain ⟨a0, r0, rfl, h⟩ := h
  replace h := ocons_some h
  obtain ⟨a1, r1, rfl, h⟩ := h
  replace h := onil_some h
  obtain ⟨rfl, h⟩ := h
  obtain ⟨a0, qh0, h⟩ := obind_some h
  obtain ⟨b1, qh1, h⟩ := obind_some h
  rw [argV_eq ok qh0, argV_eq ok qh1]
  exact call_of (phiE_nat _ _) hs ok mixed Try.func125 (c := impl_Near6_1_code) (by kernel_rfl) (impl_Near6_1_lo n) (by kernel_rfl) (by kernel_rfl) (by kernel_rfl) impl_Near6_1_de ((impl_Near6_1_tie n a0 b1).trans h)
theorem slices_SortFunc_2_int_2_int__impl_Near6_1_cl (n : Nat) (x y : U 186) : PhiE (T := T) (ents n) 31 125 [vA T 186 x, vA T 186 y] some = (impl_Near6_1 n x y).bind fun r => some (impl_Near6_1_enc r) := by kernel_rfl
theorem slices_SortFunc_2_int_2_int__impl_Near6_1_ok (n : Nat) : EntOk Try.prog (ents n) (slices_SortFunc_2_int_2_int__impl_Near6_1_ent n) := by
  intro hs ar y hg h
  replace h : slices_SortFunc_2_int_2_int__impl_Near6_1_D n ar = some y := h
  unfold slices_SortFunc_2_int_2_int__impl_Near6_1_D at h
  split at h
  · obtain ⟨l0, qh0, h⟩ := obind_some h
    rw [argV_eq ok qh0] at hg ⊢
    cases (show [_] = [125] from natsEq_eq hg)
    refine sortL_call ok lay124 (e := 186) (g := 125) (caps := []) (by kernel_rfl) (by kernel_rfl) (by decide) (by kernel_rfl) (by kernel_rfl) (by kernel_rfl) (by kernel_rfl) (fun x y c hc => ?_) h
    have h1 : PhiE (T := T) (ents n) 31 125 [vA T 186 x, vA T 186 y] some = some (impl_Near6_1_enc c) := (slices_SortFunc_2_int_2_int__impl_Near6_1_cl n x y).trans (by rw [show impl_Near6_1 n x y = some c from hc]; rfl)
    obtain ⟨res, h2, h3⟩ := hs _ _ _ _ h1
    cases h3
    exact h2
  · cases h
noncomputable def impl_Near6_code : Code := match Try.f47.body with | some c => c | none => .skip
def impl_Near6_5_sv : List Sv := [.one (.int .i64), .one (.int .i64), .one (.int .i64), .one (.own 3000000 186 false), .one (.arr 181), .one (.int .i64), .one (.int .i64)]
def impl_Near6_5_so : List So := [.arr 186 false]
def impl_Near6_5_emb (c : Int × Int × Int × List SFeature × Int) (x : Int × List SArr2_Int) : EVs T impl_Near6_5_sv × EOs T impl_Near6_5_so := ((c.1, c.2.1, c.2.2.1, (), c.2.2.2.1, c.2.2.2.2, x.1, ()), (x.2, ()))
def impl_Near6_5_prj (y : EVs T impl_Near6_5_sv × EOs T impl_Near6_5_so) : (Int × Int × Int × List SFeature × Int) × (Int × List SArr2_Int) := ((y.1.1, y.1.2.1, y.1.2.2.1, y.1.2.2.2.2.1, y.1.2.2.2.2.2.1), (y.1.2.2.2.2.2.2.1, y.2.1))
def impl_Near6_5_b (n : Nat) {R : Type} (K : Ex → Sm.St T → Option R) (c : Int × Int × Int × List SFeature × Int) (x : Int × List SArr2_Int) (J : (Int × List SArr2_Int) → Option R) : Option R :=
  impl_Near6_L5 n (fun (y0 : List SArr2_Int) => K (.exit 0) (stOf (T := T) [9] [3000000] [.one (.own 3000000 186 false)] [.arr 186 false] ((), ()) (y0, ()))) (fun z0 z1 => J (z0, z1)) c.1 c.2.1 c.2.2.1 c.2.2.2.1 c.2.2.2.2 x.1 x.2
def impl_Near6_5_sp (n : Nat) : LSpec T := mkSpec T ⟨[((.reg 9), 3000000, 186)], [1, 2, 3, 9, 32, 33, 34], [3000000]⟩ impl_Near6_5_sv impl_Near6_5_so (Int × Int × Int × List SFeature × Int) (Int × List SArr2_Int) impl_Near6_5_emb impl_Near6_5_prj (impl_Near6_5_b n)
noncomputable def impl_Near6_5_c : Code := ((loopCodes impl_Near6_code)[0]?).getD .skip
def impl_Near6_14_sv : List Sv := [.one (.own 3000001 3 false), .one (.own 3000002 186 false), .one (.int .i64), .one (.int .i64)]
def impl_Near6_14_so : List So := [.arr 3 false, .arr 186 false]
def impl_Near6_14_emb (c : Int × List SArr2_Int) (x : Int × List Int) : EVs T impl_Near6_14_sv × EOs T impl_Near6_14_so := (((), (), c.1, x.1, ()), (x.2, c.2, ()))
def impl_Near6_14_prj (y : EVs T impl_Near6_14_sv × EOs T impl_Near6_14_so) : (Int × List SArr2_Int) × (Int × List Int) := ((y.1.2.2.1, y.2.2.1), (y.1.2.2.2.1, y.2.1))
def impl_Near6_14_b (n : Nat) {R : Type} (K : Ex → Sm.St T → Option R) (c : Int × List SArr2_Int) (x : Int × List Int) (J : (Int × List Int) → Option R) : Option R :=
  impl_Near6_L14 n (fun (y0 : List Int) => K (.exit 2) (stOf (T := T) [13] [3000001] [.one (.own 3000001 3 false)] [.arr 3 false] ((), ()) (y0, ()))) (fun z0 z1 => J (z0, z1)) c.1 x.1 x.2 c.2
def impl_Near6_14_sp (n : Nat) : LSpec T := mkSpec T ⟨[((.reg 13), 3000001, 3), ((.reg 62), 3000002, 186)], [13, 62, 63, 64], [3000001, 3000002]⟩ impl_Near6_14_sv impl_Near6_14_so (Int × List SArr2_Int) (Int × List Int) impl_Near6_14_emb impl_Near6_14_prj (impl_Near6_14_b n)
noncomputable def impl_Near6_14_c : Code := ((loopCodes impl_Near6_code)[1]?).getD .skip
def impl_Near6_ann : Ann := fun id => bif Nat.beq id 3000005 then some ⟨[((.reg 9), 3000000, 186)], [9], [3000000]⟩ else bif Nat.beq id 5000014 then some ⟨[((.reg 13), 3000001, 3)], [13], [3000001]⟩ else none
def impl_Near6_Ls (n : Nat) : Nat → Option (LSpec T) := fun id => bif Nat.beq id 5 then some (impl_Near6_5_sp n) else bif Nat.beq id 14 then some (impl_Near6_14_sp n) else none
theorem impl_Near6_5_le (n : Nat) : LoopEq (T := T) (Phi n 32) (impl_Near6_Ls n) impl_Near6_ann n impl_Near6_5_c (impl_Near6_5_sp n) := ⟨mkSpec_dec (fun y => rfl), fun c x => by kernel_rfl, fun K J c x => by kernel_rfl⟩
theorem impl_Near6_14_le (n : Nat) : LoopEq (T := T) (Phi n 32) (impl_Near6_Ls n) impl_Near6_ann n impl_Near6_14_c (impl_Near6_14_sp n) := ⟨mkSpec_dec (fun y => rfl), fun c x => by kernel_rfl, fun K J c x => by kernel_rfl⟩
theorem impl_Near6_tie (n : Nat) (c0 : SChart) (x1 : Int) (y2 : Int) (far3 : Int) : evF (T := T) (Phi n 32) (impl_Near6_Ls n) impl_Near6_ann n Try.f47 (sg 47) [vA T 63 c0, vA T 3 x1, vA T 3 y2, vA T 3 far3] impl_Near6_dec = impl_Near6 n c0 x1 y2 far3 := by kernel_rfl
theorem impl_Near6_lo (n : Nat) : LoopsOk (T := T) (Phi n 32) (impl_Near6_Ls n) impl_Near6_ann n impl_Near6_code := loopsOk_all (cs := [impl_Near6_5_c, impl_Near6_14_c]) (by kernel_rfl) ⟨⟨_, by kernel_rfl, impl_Near6_5_le n⟩, ⟨_, by kernel_rfl, impl_Near6_14_le n⟩, trivial⟩
theorem impl_Near6_ok (n : Nat) : EntOk Try.prog (ents n) (impl_Near6_ent n) := by
  intro hs ar y hg h
  replace h : impl_Near6_D n ar = some y := h
  unfold impl_Near6_D at h
  replace h := ocons_some h
  obtain ⟨a0, r0, rfl, h⟩ := h
  replace h := ocons_some h
  obtain ⟨a1, r1, rfl, h⟩ := h
  replace h := ocons_some h
  obtain ⟨a2, r2, rfl, h⟩ := h
  replace h := ocons_some h
  obtain ⟨a3, r3, rfl, h⟩ := h
  replace h := onil_some h
  obtain ⟨rfl, h⟩ := h
  obtain ⟨c0, qh0, h⟩ := obind_some h
  obtain ⟨x1, qh1, h⟩ := obind_some h
  obtain ⟨y2, qh2, h⟩ := obind_some h
  obtain ⟨far3, qh3, h⟩ := obind_some h
  rw [argV_eq ok qh0, argV_eq ok qh1, argV_eq ok qh2, argV_eq ok qh3]
  exact call_of (phiE_nat _ _) hs ok mixed Try.func47 (c := impl_Near6_code) (by kernel_rfl) (impl_Near6_lo n) (by kernel_rfl) (by kernel_rfl) (by kernel_rfl) impl_Near6_de ((impl_Near6_tie n c0 x1 y2 far3).trans h)
noncomputable def laws_FnShoals_code : Code := match Try.f6.body with | some c => c | none => .skip
def laws_FnShoals_9_sv : List Sv := [.one (.ptr 24 0 0), .one (.int .i64), .one (.own 3000000 3 false), .one (.int .i64), .one (.int .i64)]
def laws_FnShoals_9_so : List So := [.var [.int .i64, .int .i64, .own 3000001 3 false, .own 3000002 181 false, .int .i64], .arr 3 false, .arr 181 false, .arr 3 false]
def laws_FnShoals_9_emb (c : Int × Int × Int × Int × List Int × List SFeature × List Int) (x : Int × Int) : EVs T laws_FnShoals_9_sv × EOs T laws_FnShoals_9_so := (((), c.1, (), x.1, x.2, ()), ((c.2.1, c.2.2.1, (), (), c.2.2.2.1, ()), c.2.2.2.2.1, c.2.2.2.2.2.1, c.2.2.2.2.2.2, ()))
def laws_FnShoals_9_prj (y : EVs T laws_FnShoals_9_sv × EOs T laws_FnShoals_9_so) : (Int × Int × Int × Int × List Int × List SFeature × List Int) × (Int × Int) := ((y.1.2.1, y.2.1.1, y.2.1.2.1, y.2.1.2.2.2.2.1, y.2.2.1, y.2.2.2.1, y.2.2.2.2.1), (y.1.2.2.2.1, y.1.2.2.2.2.1))
def laws_FnShoals_9_b (n : Nat) {R : Type} (K : Ex → Sm.St T → Option R) (c : Int × Int × Int × Int × List Int × List SFeature × List Int) (x : Int × Int) (J : (Int × Int) → Option R) : Option R :=
  laws_FnShoals_L9 n (fun (y0 : Int) => K (.exit 0) (stOf (T := T) [3, 5, 6] [24, 3000001, 3000002, 3000000] [.one (.ptr 24 0 0), .one (.own 3000000 3 false), .one (.int .i64)] [.var [.int .i64, .int .i64, .own 3000001 3 false, .own 3000002 181 false, .int .i64], .arr 3 false, .arr 181 false, .arr 3 false] ((), (), y0, ()) ((c.2.1, c.2.2.1, (), (), c.2.2.2.1, ()), c.2.2.2.2.1, c.2.2.2.2.2.1, c.2.2.2.2.2.2, ()))) (fun (y0 : Bool) => K .ret (stOf (T := T) [2] [] [.one (.bool)] [] (y0, ()) ())) (fun z0 z1 => J (z0, z1)) c.1 x.1 x.2 c.2.1 c.2.2.1 c.2.2.2.1 c.2.2.2.2.1 c.2.2.2.2.2.1 c.2.2.2.2.2.2
def laws_FnShoals_9_sp (n : Nat) : LSpec T := mkSpec T ⟨[((.reg 5), 3000000, 3), ((.cell 24 2), 3000001, 3), ((.cell 24 3), 3000002, 181)], [3, 4, 5, 6, 7], [24, 3000001, 3000002, 3000000]⟩ laws_FnShoals_9_sv laws_FnShoals_9_so (Int × Int × Int × Int × List Int × List SFeature × List Int) (Int × Int) laws_FnShoals_9_emb laws_FnShoals_9_prj (laws_FnShoals_9_b n)
noncomputable def laws_FnShoals_9_c : Code := ((loopCodes laws_FnShoals_code)[0]?).getD .skip
def laws_FnShoals_18_sv : List Sv := [.one (.ptr 24 0 0), .one (.own 3000000 3 false), .one (.int .i64), .one (.own 3000003 3 false), .one (.int .i64)]
def laws_FnShoals_18_so : List So := [.var [.int .i64, .int .i64, .own 3000001 3 false, .own 3000002 181 false, .int .i64], .arr 3 false, .arr 181 false, .arr 3 false, .arr 3 false]
def laws_FnShoals_18_emb (c : Int × Int × Int × Int × List Int × List SFeature × List Int × List Int) (x : Int) : EVs T laws_FnShoals_18_sv × EOs T laws_FnShoals_18_so := (((), (), c.1, (), x, ()), ((c.2.1, c.2.2.1, (), (), c.2.2.2.1, ()), c.2.2.2.2.1, c.2.2.2.2.2.1, c.2.2.2.2.2.2.1, c.2.2.2.2.2.2.2, ()))
def laws_FnShoals_18_prj (y : EVs T laws_FnShoals_18_sv × EOs T laws_FnShoals_18_so) : (Int × Int × Int × Int × List Int × List SFeature × List Int × List Int) × Int := ((y.1.2.2.1, y.2.1.1, y.2.1.2.1, y.2.1.2.2.2.2.1, y.2.2.1, y.2.2.2.1, y.2.2.2.2.1, y.2.2.2.2.2.1), (y.1.2.2.2.2.1))
def laws_FnShoals_18_b (n : Nat) {R : Type} (K : Ex → Sm.St T → Option R) (c : Int × Int × Int × Int × List Int × List SFeature × List Int × List Int) (x : Int) (J : Int → Option R) : Option R :=
  laws_FnShoals_L18 n (K (.exit 2) (stOf (T := T) [3, 5, 6, 10] [24, 3000001, 3000002, 3000000, 3000003] [.one (.ptr 24 0 0), .one (.own 3000000 3 false), .one (.int .i64), .one (.own 3000003 3 false)] [.var [.int .i64, .int .i64, .own 3000001 3 false, .own 3000002 181 false, .int .i64], .arr 3 false, .arr 181 false, .arr 3 false, .arr 3 false] ((), (), c.1, (), ()) ((c.2.1, c.2.2.1, (), (), c.2.2.2.1, ()), c.2.2.2.2.1, c.2.2.2.2.2.1, c.2.2.2.2.2.2.1, c.2.2.2.2.2.2.2, ()))) (fun (y0 : Bool) => K .ret (stOf (T := T) [2] [] [.one (.bool)] [] (y0, ()) ())) J c.1 x c.2.1 c.2.2.1 c.2.2.2.1 c.2.2.2.2.1 c.2.2.2.2.2.1 c.2.2.2.2.2.2.1 c.2.2.2.2.2.2.2
def laws_FnShoals_18_sp (n : Nat) : LSpec T := mkSpec T ⟨[((.reg 5), 3000000, 3), ((.reg 10), 3000003, 3), ((.cell 24 2), 3000001, 3), ((.cell 24 3), 3000002, 181)], [3, 5, 6, 10, 11], [24, 3000001, 3000002, 3000000, 3000003]⟩ laws_FnShoals_18_sv laws_FnShoals_18_so (Int × Int × Int × Int × List Int × List SFeature × List Int × List Int) (Int) laws_FnShoals_18_emb laws_FnShoals_18_prj (laws_FnShoals_18_b n)
noncomputable def laws_FnShoals_18_c : Code := ((loopCodes laws_FnShoals_code)[1]?).getD .skip
def laws_FnShoals_ann : Ann := fun id => bif Nat.beq id 3000009 then some ⟨[((.reg 5), 3000000, 3), ((.cell 24 2), 3000001, 3), ((.cell 24 3), 3000002, 181)], [3, 5, 6], [24, 3000001, 3000002, 3000000]⟩ else bif Nat.beq id 2000009 then some ⟨[], [2], []⟩ else bif Nat.beq id 5000018 then some ⟨[((.reg 5), 3000000, 3), ((.reg 10), 3000003, 3), ((.cell 24 2), 3000001, 3), ((.cell 24 3), 3000002, 181)], [3, 5, 6, 10], [24, 3000001, 3000002, 3000000, 3000003]⟩ else bif Nat.beq id 2000018 then some ⟨[], [2], []⟩ else none
def laws_FnShoals_Ls (n : Nat) : Nat → Option (LSpec T) := fun id => bif Nat.beq id 9 then some (laws_FnShoals_9_sp n) else bif Nat.beq id 18 then some (laws_FnShoals_18_sp n) else none
theorem laws_FnShoals_9_le (n : Nat) : LoopEq (T := T) (Phi n 33) (laws_FnShoals_Ls n) laws_FnShoals_ann n laws_FnShoals_9_c (laws_FnShoals_9_sp n) := ⟨mkSpec_dec (fun y => rfl), fun c x => by kernel_rfl, fun K J c x => by kernel_rfl⟩
theorem laws_FnShoals_18_le (n : Nat) : LoopEq (T := T) (Phi n 33) (laws_FnShoals_Ls n) laws_FnShoals_ann n laws_FnShoals_18_c (laws_FnShoals_18_sp n) := ⟨mkSpec_dec (fun y => rfl), fun c x => by kernel_rfl, fun K J c x => by kernel_rfl⟩
theorem laws_FnShoals_tie (n : Nat) (code0 : List Int) : evF (T := T) (Phi n 33) (laws_FnShoals_Ls n) laws_FnShoals_ann n Try.f6 (sg 6) [vA T 22 code0] laws_FnShoals_dec = laws_FnShoals n code0 := by kernel_rfl
theorem laws_FnShoals_lo (n : Nat) : LoopsOk (T := T) (Phi n 33) (laws_FnShoals_Ls n) laws_FnShoals_ann n laws_FnShoals_code := loopsOk_all (cs := [laws_FnShoals_9_c, laws_FnShoals_18_c]) (by kernel_rfl) ⟨⟨_, by kernel_rfl, laws_FnShoals_9_le n⟩, ⟨_, by kernel_rfl, laws_FnShoals_18_le n⟩, trivial⟩
theorem laws_FnShoals_ok (n : Nat) : EntOk Try.prog (ents n) (laws_FnShoals_ent n) := by
  intro hs ar y hg h
  replace h : laws_FnShoals_D n ar = some y := h
  unfold laws_FnShoals_D at h
  replace h := ocons_some h
  obtain ⟨a0, r0, rfl, h⟩ := h
  replace h := onil_some h
  obtain ⟨rfl, h⟩ := h
  obtain ⟨code0, qh0, h⟩ := obind_some h
  rw [argV_eq ok qh0]
  exact call_of (phiE_nat _ _) hs ok mixed Try.func6 (c := laws_FnShoals_code) (by kernel_rfl) (laws_FnShoals_lo n) (by kernel_rfl) (by kernel_rfl) (by kernel_rfl) laws_FnShoals_de ((laws_FnShoals_tie n code0).trans h)
theorem entsOk (n : Nat) : EntsOk Try.prog (ents n) (ents n) := ⟨laws_big_ok n, spec_l1New_ok n, spec_l1Byte_ok n, spec_l1Below_ok n, spec_l1Pick_ok n, spec_l6Draw_ok n, spec_l1PickInt_ok n, spec_l6DrawAny_ok n, spec_DrawShoals_ok n, spec_l1In_ok n, spec_l6Depth_ok n, spec_l6Place_ok n, spec_l6Feature_ok n, spec_ChartOk_ok n, impl_in_ok n, impl_all_1_ok n, slices_IndexFunc_int_int__impl_all_1_ok n, slices_ContainsFunc_int_int__impl_all_1_ok n, impl_all_ok n, impl_Chart_place_ok n, impl_Chart_featureOk_ok n, impl_ChartOk_ok n, impl_own_int_ok n, impl_Shoals_ok n, impl_DepthAt_ok n, laws_within_ok n, impl_size_ok n, cmp_isNaN_int_ok n, cmp_Compare_int_ok n, slices_Compare_int_int_ok n, impl_Near6_1_ok n, slices_SortFunc_2_int_2_int__impl_Near6_1_ok n, impl_Near6_ok n, laws_FnShoals_ok n, trivial⟩
theorem sem (n i : Nat) : SemOk (Phi n i) (CallOk Try.prog T) := phiE_ok (entsOk n) i
end Go.Sm.B6
