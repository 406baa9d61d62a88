import Derived.Test.YtakllmgiobpmgaaE11Tb
import Derived.Test.YtakllmgiobpmgaaE11Wk
import Derived.KernelRfl
/- Each function's code computes what the plain function computes. -/
set_option linter.unusedSimpArgs false
set_option linter.deprecated false
set_option linter.unusedSectionVars false
set_option linter.unusedVariables false
set_option maxRecDepth 100000
open Go Go.Proofs
noncomputable section
namespace Go.Sm.E11
/-- By recursors, and of a greater height than all of the functions: the kernel takes these apart first. -/
def obind {α β : Type} (o : Option α) (f : α → Option β) : Option β := let _ := @laws_FnCheapest; Option.rec (motive := fun _ => Option β) none (fun a => f a) o
theorem obind_some {α β : Type} {o : Option α} {f : α → Option β} {y : β} (h : obind o f = some y) : ∃ a, o = some a ∧ f a = some y := by
  cases o with
  | none => cases h
  | some a => exact ⟨a, rfl, h⟩
def ocons {β : Type} (l : List (A T)) (f : A T → List (A T) → Option β) : Option β := let _ := @laws_FnCheapest; List.rec (motive := fun _ => Option β) none (fun a r _ => f a r) l
theorem ocons_some {β : Type} {l : List (A T)} {f : A T → List (A T) → Option β} {y : β} (h : ocons l f = some y) : ∃ a r, l = a :: r ∧ f a r = some y := by
  cases l with
  | nil => cases h
  | cons a r => exact ⟨a, r, rfl, h⟩
def onil {β : Type} (l : List (A T)) (x : Option β) : Option β := let _ := @laws_FnCheapest; List.rec (motive := fun _ => Option β) x (fun _ _ _ => none) l
theorem onil_some {β : Type} {l : List (A T)} {x : Option β} {y : β} (h : onil l x = some y) : l = [] ∧ x = some y := by
  cases l with
  | nil => exact ⟨rfl, h⟩
  | cons a r => cases h
def laws_big_dec (res : Res T) : Option Bool := match res.rets, res.outs with
  | [a0], [] => (retV (T := T) 4 a0).bind fun r0 => some (r0)
  | _, _ => none
def laws_big_enc (y : Bool) : Res T := ⟨[vR T 4 y], []⟩
theorem laws_big_de (res : Res T) (y : Bool) (h : laws_big_dec res = some y) : res = laws_big_enc y := by
  obtain ⟨rets, outs⟩ := res
  unfold laws_big_dec at h
  dsimp only at h
  split at h
  · obtain ⟨r0, h0, h⟩ := Option.bind_eq_some_iff.1 h
    cases h
    rw [retV_eq ok h0]
    rfl
  · cases h
def spec_l1New_dec (res : Res T) : Option Sl1Cur := match res.rets, res.outs with
  | [a0], [] => (retP (T := T) 184 a0).bind fun r0 => some (r0)
  | _, _ => none
def spec_l1New_enc (y : Sl1Cur) : Res T := ⟨[.ptr 184 y], []⟩
theorem spec_l1New_de (res : Res T) (y : Sl1Cur) (h : spec_l1New_dec res = some y) : res = spec_l1New_enc y := by
  obtain ⟨rets, outs⟩ := res
  unfold spec_l1New_dec at h
  dsimp only at h
  split at h
  · obtain ⟨r0, h0, h⟩ := Option.bind_eq_some_iff.1 h
    cases h
    rw [retP_eq h0]
    rfl
  · cases h
def spec_l1Byte_dec (res : Res T) : Option (Int × Sl1Cur) := match res.rets, res.outs with
  | [a0], [b0] => (retV (T := T) 3 a0).bind fun r0 => (outV (T := T) 184 b0).bind fun r1 => some (r0, r1)
  | _, _ => none
def spec_l1Byte_enc (y : Int × Sl1Cur) : Res T := ⟨[vR T 3 y.1], [.var 184 y.2]⟩
theorem spec_l1Byte_de (res : Res T) (y : Int × Sl1Cur) (h : spec_l1Byte_dec res = some y) : res = spec_l1Byte_enc y := by
  obtain ⟨rets, outs⟩ := res
  unfold spec_l1Byte_dec at h
  dsimp only at h
  split at h
  · obtain ⟨r0, h0, h⟩ := Option.bind_eq_some_iff.1 h
    obtain ⟨r1, h1, h⟩ := Option.bind_eq_some_iff.1 h
    cases h
    rw [retV_eq ok h0, outV_eq h1]
    rfl
  · cases h
def spec_l1Below_dec (res : Res T) : Option (Int × Sl1Cur) := match res.rets, res.outs with
  | [a0], [b0] => (retV (T := T) 3 a0).bind fun r0 => (outV (T := T) 184 b0).bind fun r1 => some (r0, r1)
  | _, _ => none
def spec_l1Below_enc (y : Int × Sl1Cur) : Res T := ⟨[vR T 3 y.1], [.var 184 y.2]⟩
theorem spec_l1Below_de (res : Res T) (y : Int × Sl1Cur) (h : spec_l1Below_dec res = some y) : res = spec_l1Below_enc y := by
  obtain ⟨rets, outs⟩ := res
  unfold spec_l1Below_dec at h
  dsimp only at h
  split at h
  · obtain ⟨r0, h0, h⟩ := Option.bind_eq_some_iff.1 h
    obtain ⟨r1, h1, h⟩ := Option.bind_eq_some_iff.1 h
    cases h
    rw [retV_eq ok h0, outV_eq h1]
    rfl
  · cases h
def spec_l1Once_dec (res : Res T) : Option (Bool × Sl1Cur) := match res.rets, res.outs with
  | [a0], [b0] => (retV (T := T) 4 a0).bind fun r0 => (outV (T := T) 184 b0).bind fun r1 => some (r0, r1)
  | _, _ => none
def spec_l1Once_enc (y : Bool × Sl1Cur) : Res T := ⟨[vR T 4 y.1], [.var 184 y.2]⟩
theorem spec_l1Once_de (res : Res T) (y : Bool × Sl1Cur) (h : spec_l1Once_dec res = some y) : res = spec_l1Once_enc y := by
  obtain ⟨rets, outs⟩ := res
  unfold spec_l1Once_dec at h
  dsimp only at h
  split at h
  · obtain ⟨r0, h0, h⟩ := Option.bind_eq_some_iff.1 h
    obtain ⟨r1, h1, h⟩ := Option.bind_eq_some_iff.1 h
    cases h
    rw [retV_eq ok h0, outV_eq h1]
    rfl
  · cases h
def spec_l7Draw_dec (res : Res T) : Option (SSea × Sl1Cur) := match res.rets, res.outs with
  | [a0], [b0] => (retV (T := T) 104 a0).bind fun r0 => (outV (T := T) 184 b0).bind fun r1 => some (r0, r1)
  | _, _ => none
def spec_l7Draw_enc (y : SSea × Sl1Cur) : Res T := ⟨[vR T 104 y.1], [.var 184 y.2]⟩
theorem spec_l7Draw_de (res : Res T) (y : SSea × Sl1Cur) (h : spec_l7Draw_dec res = some y) : res = spec_l7Draw_enc y := by
  obtain ⟨rets, outs⟩ := res
  unfold spec_l7Draw_dec at h
  dsimp only at h
  split at h
  · obtain ⟨r0, h0, h⟩ := Option.bind_eq_some_iff.1 h
    obtain ⟨r1, h1, h⟩ := Option.bind_eq_some_iff.1 h
    cases h
    rw [retV_eq ok h0, outV_eq h1]
    rfl
  · cases h
def spec_DrawRightSea_dec (res : Res T) : Option (SSea × Int) := match res.rets, res.outs with
  | [a0, a1], [] => (retV (T := T) 104 a0).bind fun r0 => (retV (T := T) 3 a1).bind fun r1 => some (r0, r1)
  | _, _ => none
def spec_DrawRightSea_enc (y : SSea × Int) : Res T := ⟨[vR T 104 y.1, vR T 3 y.2], []⟩
theorem spec_DrawRightSea_de (res : Res T) (y : SSea × Int) (h : spec_DrawRightSea_dec res = some y) : res = spec_DrawRightSea_enc y := by
  obtain ⟨rets, outs⟩ := res
  unfold spec_DrawRightSea_dec at h
  dsimp only at h
  split at h
  · obtain ⟨r0, h0, h⟩ := Option.bind_eq_some_iff.1 h
    obtain ⟨r1, h1, h⟩ := Option.bind_eq_some_iff.1 h
    cases h
    rw [retV_eq ok h0, retV_eq ok h1]
    rfl
  · cases h
def impl_in_dec (res : Res T) : Option Bool := match res.rets, res.outs with
  | [a0], [] => (retV (T := T) 4 a0).bind fun r0 => some (r0)
  | _, _ => none
def impl_in_enc (y : Bool) : Res T := ⟨[vR T 4 y], []⟩
theorem impl_in_de (res : Res T) (y : Bool) (h : impl_in_dec res = some y) : res = impl_in_enc y := by
  obtain ⟨rets, outs⟩ := res
  unfold impl_in_dec at h
  dsimp only at h
  split at h
  · obtain ⟨r0, h0, h⟩ := Option.bind_eq_some_iff.1 h
    cases h
    rw [retV_eq ok h0]
    rfl
  · cases h
def impl_all_1_dec (res : Res T) : Option Bool := match res.rets, res.outs with
  | [a0], [] => (retV (T := T) 4 a0).bind fun r0 => some (r0)
  | _, _ => none
def impl_all_1_enc (y : Bool) : Res T := ⟨[vR T 4 y], []⟩
theorem impl_all_1_de (res : Res T) (y : Bool) (h : impl_all_1_dec res = some y) : res = impl_all_1_enc y := by
  obtain ⟨rets, outs⟩ := res
  unfold impl_all_1_dec at h
  dsimp only at h
  split at h
  · obtain ⟨r0, h0, h⟩ := Option.bind_eq_some_iff.1 h
    cases h
    rw [retV_eq ok h0]
    rfl
  · cases h
def slices_IndexFunc_int_int__impl_all_1_dec (res : Res T) : Option Int := match res.rets, res.outs with
  | [a0], [] => (retV (T := T) 3 a0).bind fun r0 => some (r0)
  | _, _ => none
def slices_IndexFunc_int_int__impl_all_1_enc (y : Int) : Res T := ⟨[vR T 3 y], []⟩
theorem slices_IndexFunc_int_int__impl_all_1_de (res : Res T) (y : Int) (h : slices_IndexFunc_int_int__impl_all_1_dec res = some y) : res = slices_IndexFunc_int_int__impl_all_1_enc y := by
  obtain ⟨rets, outs⟩ := res
  unfold slices_IndexFunc_int_int__impl_all_1_dec at h
  dsimp only at h
  split at h
  · obtain ⟨r0, h0, h⟩ := Option.bind_eq_some_iff.1 h
    cases h
    rw [retV_eq ok h0]
    rfl
  · cases h
def slices_ContainsFunc_int_int__impl_all_1_dec (res : Res T) : Option Bool := match res.rets, res.outs with
  | [a0], [] => (retV (T := T) 4 a0).bind fun r0 => some (r0)
  | _, _ => none
def slices_ContainsFunc_int_int__impl_all_1_enc (y : Bool) : Res T := ⟨[vR T 4 y], []⟩
theorem slices_ContainsFunc_int_int__impl_all_1_de (res : Res T) (y : Bool) (h : slices_ContainsFunc_int_int__impl_all_1_dec res = some y) : res = slices_ContainsFunc_int_int__impl_all_1_enc y := by
  obtain ⟨rets, outs⟩ := res
  unfold slices_ContainsFunc_int_int__impl_all_1_dec at h
  dsimp only at h
  split at h
  · obtain ⟨r0, h0, h⟩ := Option.bind_eq_some_iff.1 h
    cases h
    rw [retV_eq ok h0]
    rfl
  · cases h
def impl_all_dec (res : Res T) : Option Bool := match res.rets, res.outs with
  | [a0], [] => (retV (T := T) 4 a0).bind fun r0 => some (r0)
  | _, _ => none
def impl_all_enc (y : Bool) : Res T := ⟨[vR T 4 y], []⟩
theorem impl_all_de (res : Res T) (y : Bool) (h : impl_all_dec res = some y) : res = impl_all_enc y := by
  obtain ⟨rets, outs⟩ := res
  unfold impl_all_dec at h
  dsimp only at h
  split at h
  · obtain ⟨r0, h0, h⟩ := Option.bind_eq_some_iff.1 h
    cases h
    rw [retV_eq ok h0]
    rfl
  · cases h
def impl_SeaOk_dec (res : Res T) : Option Bool := match res.rets, res.outs with
  | [a0], [] => (retV (T := T) 4 a0).bind fun r0 => some (r0)
  | _, _ => none
def impl_SeaOk_enc (y : Bool) : Res T := ⟨[vR T 4 y], []⟩
theorem impl_SeaOk_de (res : Res T) (y : Bool) (h : impl_SeaOk_dec res = some y) : res = impl_SeaOk_enc y := by
  obtain ⟨rets, outs⟩ := res
  unfold impl_SeaOk_dec at h
  dsimp only at h
  split at h
  · obtain ⟨r0, h0, h⟩ := Option.bind_eq_some_iff.1 h
    cases h
    rw [retV_eq ok h0]
    rfl
  · cases h
def impl_Sea_place_dec (res : Res T) : Option Bool := match res.rets, res.outs with
  | [a0], [] => (retV (T := T) 4 a0).bind fun r0 => some (r0)
  | _, _ => none
def impl_Sea_place_enc (y : Bool) : Res T := ⟨[vR T 4 y], []⟩
theorem impl_Sea_place_de (res : Res T) (y : Bool) (h : impl_Sea_place_dec res = some y) : res = impl_Sea_place_enc y := by
  obtain ⟨rets, outs⟩ := res
  unfold impl_Sea_place_dec at h
  dsimp only at h
  split at h
  · obtain ⟨r0, h0, h⟩ := Option.bind_eq_some_iff.1 h
    cases h
    rw [retV_eq ok h0]
    rfl
  · cases h
def impl_Sea_next_dec (res : Res T) : Option (List Int) := match res.rets, res.outs with
  | [a0], [] => (retV (T := T) 24 a0).bind fun r0 => some (r0)
  | _, _ => none
def impl_Sea_next_enc (y : List Int) : Res T := ⟨[vR T 24 y], []⟩
theorem impl_Sea_next_de (res : Res T) (y : List Int) (h : impl_Sea_next_dec res = some y) : res = impl_Sea_next_enc y := by
  obtain ⟨rets, outs⟩ := res
  unfold impl_Sea_next_dec at h
  dsimp only at h
  split at h
  · obtain ⟨r0, h0, h⟩ := Option.bind_eq_some_iff.1 h
    cases h
    rw [retV_eq ok h0]
    rfl
  · cases h
def impl_Cheapest_dec (res : Res T) : Option (List Int × Bool) := match res.rets, res.outs with
  | [a0, a1], [] => (retV (T := T) 24 a0).bind fun r0 => (retV (T := T) 4 a1).bind fun r1 => some (r0, r1)
  | _, _ => none
def impl_Cheapest_enc (y : List Int × Bool) : Res T := ⟨[vR T 24 y.1, vR T 4 y.2], []⟩
theorem impl_Cheapest_de (res : Res T) (y : List Int × Bool) (h : impl_Cheapest_dec res = some y) : res = impl_Cheapest_enc y := by
  obtain ⟨rets, outs⟩ := res
  unfold impl_Cheapest_dec at h
  dsimp only at h
  split at h
  · obtain ⟨r0, h0, h⟩ := Option.bind_eq_some_iff.1 h
    obtain ⟨r1, h1, h⟩ := Option.bind_eq_some_iff.1 h
    cases h
    rw [retV_eq ok h0, retV_eq ok h1]
    rfl
  · cases h
def impl_Proves_dec (res : Res T) : Option Bool := match res.rets, res.outs with
  | [a0], [] => (retV (T := T) 4 a0).bind fun r0 => some (r0)
  | _, _ => none
def impl_Proves_enc (y : Bool) : Res T := ⟨[vR T 4 y], []⟩
theorem impl_Proves_de (res : Res T) (y : Bool) (h : impl_Proves_dec res = some y) : res = impl_Proves_enc y := by
  obtain ⟨rets, outs⟩ := res
  unfold impl_Proves_dec at h
  dsimp only at h
  split at h
  · obtain ⟨r0, h0, h⟩ := Option.bind_eq_some_iff.1 h
    cases h
    rw [retV_eq ok h0]
    rfl
  · cases h
def laws_at_dec (res : Res T) : Option Int := match res.rets, res.outs with
  | [a0], [] => (retV (T := T) 3 a0).bind fun r0 => some (r0)
  | _, _ => none
def laws_at_enc (y : Int) : Res T := ⟨[vR T 3 y], []⟩
theorem laws_at_de (res : Res T) (y : Int) (h : laws_at_dec res = some y) : res = laws_at_enc y := by
  obtain ⟨rets, outs⟩ := res
  unfold laws_at_dec at h
  dsimp only at h
  split at h
  · obtain ⟨r0, h0, h⟩ := Option.bind_eq_some_iff.1 h
    cases h
    rw [retV_eq ok h0]
    rfl
  · cases h
def impl_own_int_dec (res : Res T) : Option (List Int) := match res.rets, res.outs with
  | [a0], [] => (retV (T := T) 24 a0).bind fun r0 => some (r0)
  | _, _ => none
def impl_own_int_enc (y : List Int) : Res T := ⟨[vR T 24 y], []⟩
theorem impl_own_int_de (res : Res T) (y : List Int) (h : impl_own_int_dec res = some y) : res = impl_own_int_enc y := by
  obtain ⟨rets, outs⟩ := res
  unfold impl_own_int_dec at h
  dsimp only at h
  split at h
  · obtain ⟨r0, h0, h⟩ := Option.bind_eq_some_iff.1 h
    cases h
    rw [retV_eq ok h0]
    rfl
  · cases h
def impl_WayOf_dec (res : Res T) : Option (List Int × Bool) := match res.rets, res.outs with
  | [a0, a1], [] => (retV (T := T) 24 a0).bind fun r0 => (retV (T := T) 4 a1).bind fun r1 => some (r0, r1)
  | _, _ => none
def impl_WayOf_enc (y : List Int × Bool) : Res T := ⟨[vR T 24 y.1, vR T 4 y.2], []⟩
theorem impl_WayOf_de (res : Res T) (y : List Int × Bool) (h : impl_WayOf_dec res = some y) : res = impl_WayOf_enc y := by
  obtain ⟨rets, outs⟩ := res
  unfold impl_WayOf_dec at h
  dsimp only at h
  split at h
  · obtain ⟨r0, h0, h⟩ := Option.bind_eq_some_iff.1 h
    obtain ⟨r1, h1, h⟩ := Option.bind_eq_some_iff.1 h
    cases h
    rw [retV_eq ok h0, retV_eq ok h1]
    rfl
  · cases h
def impl_WayCost_dec (res : Res T) : Option (Int × Bool) := match res.rets, res.outs with
  | [a0, a1], [] => (retV (T := T) 3 a0).bind fun r0 => (retV (T := T) 4 a1).bind fun r1 => some (r0, r1)
  | _, _ => none
def impl_WayCost_enc (y : Int × Bool) : Res T := ⟨[vR T 3 y.1, vR T 4 y.2], []⟩
theorem impl_WayCost_de (res : Res T) (y : Int × Bool) (h : impl_WayCost_dec res = some y) : res = impl_WayCost_enc y := by
  obtain ⟨rets, outs⟩ := res
  unfold impl_WayCost_dec at h
  dsimp only at h
  split at h
  · obtain ⟨r0, h0, h⟩ := Option.bind_eq_some_iff.1 h
    obtain ⟨r1, h1, h⟩ := Option.bind_eq_some_iff.1 h
    cases h
    rw [retV_eq ok h0, retV_eq ok h1]
    rfl
  · cases h
def impl_Sea_shut_dec (res : Res T) : Option Bool := match res.rets, res.outs with
  | [a0], [] => (retV (T := T) 4 a0).bind fun r0 => some (r0)
  | _, _ => none
def impl_Sea_shut_enc (y : Bool) : Res T := ⟨[vR T 4 y], []⟩
theorem impl_Sea_shut_de (res : Res T) (y : Bool) (h : impl_Sea_shut_dec res = some y) : res = impl_Sea_shut_enc y := by
  obtain ⟨rets, outs⟩ := res
  unfold impl_Sea_shut_dec at h
  dsimp only at h
  split at h
  · obtain ⟨r0, h0, h⟩ := Option.bind_eq_some_iff.1 h
    cases h
    rw [retV_eq ok h0]
    rfl
  · cases h
def impl_Quickest_dec (res : Res T) : Option (Int × Bool) := match res.rets, res.outs with
  | [a0, a1], [] => (retV (T := T) 3 a0).bind fun r0 => (retV (T := T) 4 a1).bind fun r1 => some (r0, r1)
  | _, _ => none
def impl_Quickest_enc (y : Int × Bool) : Res T := ⟨[vR T 3 y.1, vR T 4 y.2], []⟩
theorem impl_Quickest_de (res : Res T) (y : Int × Bool) (h : impl_Quickest_dec res = some y) : res = impl_Quickest_enc y := by
  obtain ⟨rets, outs⟩ := res
  unfold impl_Quickest_dec at h
  dsimp only at h
  split at h
  · obtain ⟨r0, h0, h⟩ := Option.bind_eq_some_iff.1 h
    obtain ⟨r1, h1, h⟩ := Option.bind_eq_some_iff.1 h
    cases h
    rw [retV_eq ok h0, retV_eq ok h1]
    rfl
  · cases h
def laws_size_dec (res : Res T) : Option Int := match res.rets, res.outs with
  | [a0], [] => (retV (T := T) 3 a0).bind fun r0 => some (r0)
  | _, _ => none
def laws_size_enc (y : Int) : Res T := ⟨[vR T 3 y], []⟩
theorem laws_size_de (res : Res T) (y : Int) (h : laws_size_dec res = some y) : res = laws_size_enc y := by
  obtain ⟨rets, outs⟩ := res
  unfold laws_size_dec at h
  dsimp only at h
  split at h
  · obtain ⟨r0, h0, h⟩ := Option.bind_eq_some_iff.1 h
    cases h
    rw [retV_eq ok h0]
    rfl
  · cases h
def impl_WayShut_dec (res : Res T) : Option (Int × Bool) := match res.rets, res.outs with
  | [a0, a1], [] => (retV (T := T) 3 a0).bind fun r0 => (retV (T := T) 4 a1).bind fun r1 => some (r0, r1)
  | _, _ => none
def impl_WayShut_enc (y : Int × Bool) : Res T := ⟨[vR T 3 y.1, vR T 4 y.2], []⟩
theorem impl_WayShut_de (res : Res T) (y : Int × Bool) (h : impl_WayShut_dec res = some y) : res = impl_WayShut_enc y := by
  obtain ⟨rets, outs⟩ := res
  unfold impl_WayShut_dec at h
  dsimp only at h
  split at h
  · obtain ⟨r0, h0, h⟩ := Option.bind_eq_some_iff.1 h
    obtain ⟨r1, h1, h⟩ := Option.bind_eq_some_iff.1 h
    cases h
    rw [retV_eq ok h0, retV_eq ok h1]
    rfl
  · cases h
def laws_FnCheapest_dec (res : Res T) : Option Bool := match res.rets, res.outs with
  | [a0], [] => (retV (T := T) 4 a0).bind fun r0 => some (r0)
  | _, _ => none
def laws_FnCheapest_enc (y : Bool) : Res T := ⟨[vR T 4 y], []⟩
theorem laws_FnCheapest_de (res : Res T) (y : Bool) (h : laws_FnCheapest_dec res = some y) : res = laws_FnCheapest_enc y := by
  obtain ⟨rets, outs⟩ := res
  unfold laws_FnCheapest_dec at h
  dsimp only at h
  split at h
  · obtain ⟨r0, h0, h⟩ := Option.bind_eq_some_iff.1 h
    cases h
    rw [retV_eq ok h0]
    rfl
  · cases h
def laws_big_D (n : Nat) (r0 : List (A T)) : Option Bool := ocons r0 fun a0 r1 => onil r1 (obind (argV (T := T) 34 a0) fun code0 => laws_big n code0)
def laws_big_ent (n : Nat) : Ent T := ⟨21, 0, [], Bool, laws_big_D n, laws_big_enc⟩
def spec_l1New_D (n : Nat) (r0 : List (A T)) : Option Sl1Cur := ocons r0 fun a0 r1 => onil r1 (obind (argV (T := T) 34 a0) fun code0 => spec_l1New n code0)
def spec_l1New_ent (n : Nat) : Ent T := ⟨82, 1, [], Sl1Cur, spec_l1New_D n, spec_l1New_enc⟩
def spec_l1Byte_D (n : Nat) (r0 : List (A T)) : Option (Int × Sl1Cur) := ocons r0 fun a0 r1 => onil r1 (obind (argP (T := T) 184 a0) fun c0 => spec_l1Byte n c0)
def spec_l1Byte_ent (n : Nat) : Ent T := ⟨188, 2, [], Int × Sl1Cur, spec_l1Byte_D n, spec_l1Byte_enc⟩
def spec_l1Below_D (n : Nat) (r0 : List (A T)) : Option (Int × Sl1Cur) := ocons r0 fun a0 r1 => ocons r1 fun a1 r2 => onil r2 (obind (argP (T := T) 184 a0) fun c0 => obind (argV (T := T) 3 a1) fun n1 => spec_l1Below n c0 n1)
def spec_l1Below_ent (n : Nat) : Ent T := ⟨132, 3, [], Int × Sl1Cur, spec_l1Below_D n, spec_l1Below_enc⟩
def spec_l1Once_D (n : Nat) (r0 : List (A T)) : Option (Bool × Sl1Cur) := ocons r0 fun a0 r1 => ocons r1 fun a1 r2 => onil r2 (obind (argP (T := T) 184 a0) fun c0 => obind (argV (T := T) 3 a1) fun n1 => spec_l1Once n c0 n1)
def spec_l1Once_ent (n : Nat) : Ent T := ⟨172, 4, [], Bool × Sl1Cur, spec_l1Once_D n, spec_l1Once_enc⟩
def spec_l7Draw_D (n : Nat) (r0 : List (A T)) : Option (SSea × Sl1Cur) := ocons r0 fun a0 r1 => onil r1 (obind (argP (T := T) 184 a0) fun c0 => spec_l7Draw n c0)
def spec_l7Draw_ent (n : Nat) : Ent T := ⟨156, 5, [], SSea × Sl1Cur, spec_l7Draw_D n, spec_l7Draw_enc⟩
def spec_DrawRightSea_D (n : Nat) (r0 : List (A T)) : Option (SSea × Int) := ocons r0 fun a0 r1 => onil r1 (obind (argV (T := T) 34 a0) fun code0 => spec_DrawRightSea n code0)
def spec_DrawRightSea_ent (n : Nat) : Ent T := ⟨63, 6, [], SSea × Int, spec_DrawRightSea_D n, spec_DrawRightSea_enc⟩
def impl_in_D (n : Nat) (r0 : List (A T)) : Option Bool := ocons r0 fun a0 r1 => ocons r1 fun a1 r2 => ocons r2 fun a2 r3 => onil r3 (obind (argV (T := T) 3 a0) fun n0 => obind (argV (T := T) 3 a1) fun least1 => obind (argV (T := T) 3 a2) fun most2 => impl_in n n0 least1 most2)
def impl_in_ent (n : Nat) : Ent T := ⟨87, 7, [], Bool, impl_in_D n, impl_in_enc⟩
def impl_all_1_D (n : Nat) (r0 : List (A T)) : Option Bool := ocons r0 fun a0 r1 => ocons r1 fun a1 r2 => ocons r2 fun a2 r3 => onil r3 (obind (argV (T := T) 3 a0) fun n0 => obind (argP (T := T) 3 a1) fun a1 => obind (argP (T := T) 3 a2) fun a2 => impl_all_1 n n0 a1 a2)
def impl_all_1_ent (n : Nat) : Ent T := ⟨200, 8, [], Bool, impl_all_1_D n, impl_all_1_enc⟩
def slices_IndexFunc_int_int__impl_all_1_D (n : Nat) (ar : List (A T)) : Option Int := match ar with
  | [a0, .fn _ [k1_0, k1_1]] => obind (argV (T := T) 24 a0) fun s0 => obind (argP (T := T) 3 k1_0) fun f1c0 => obind (argP (T := T) 3 k1_1) fun f1c1 => slices_IndexFunc_int_int__impl_all_1 n s0 f1c0 f1c1
  | _ => none
def slices_IndexFunc_int_int__impl_all_1_ent (n : Nat) : Ent T := ⟨233, 9, [200], Int, slices_IndexFunc_int_int__impl_all_1_D n, slices_IndexFunc_int_int__impl_all_1_enc⟩
def slices_ContainsFunc_int_int__impl_all_1_D (n : Nat) (ar : List (A T)) : Option Bool := match ar with
  | [a0, .fn _ [k1_0, k1_1]] => obind (argV (T := T) 24 a0) fun s0 => obind (argP (T := T) 3 k1_0) fun f1c0 => obind (argP (T := T) 3 k1_1) fun f1c1 => slices_ContainsFunc_int_int__impl_all_1 n s0 f1c0 f1c1
  | _ => none
def slices_ContainsFunc_int_int__impl_all_1_ent (n : Nat) : Ent T := ⟨199, 10, [200], Bool, slices_ContainsFunc_int_int__impl_all_1_D n, slices_ContainsFunc_int_int__impl_all_1_enc⟩
def impl_all_D (n : Nat) (r0 : List (A T)) : Option Bool := ocons r0 fun a0 r1 => ocons r1 fun a1 r2 => ocons r2 fun a2 r3 => onil r3 (obind (argV (T := T) 24 a0) fun l0 => obind (argV (T := T) 3 a1) fun least1 => obind (argV (T := T) 3 a2) fun most2 => impl_all n l0 least1 most2)
def impl_all_ent (n : Nat) : Ent T := ⟨159, 11, [], Bool, impl_all_D n, impl_all_enc⟩
def impl_SeaOk_D (n : Nat) (r0 : List (A T)) : Option Bool := ocons r0 fun a0 r1 => onil r1 (obind (argV (T := T) 104 a0) fun s0 => impl_SeaOk n s0)
def impl_SeaOk_ent (n : Nat) : Ent T := ⟨65, 12, [], Bool, impl_SeaOk_D n, impl_SeaOk_enc⟩
def impl_Sea_place_D (n : Nat) (r0 : List (A T)) : Option Bool := ocons r0 fun a0 r1 => ocons r1 fun a1 r2 => onil r2 (obind (argV (T := T) 104 a0) fun s0 => obind (argV (T := T) 3 a1) fun p1 => impl_Sea_place n s0 p1)
def impl_Sea_place_ent (n : Nat) : Ent T := ⟨157, 13, [], Bool, impl_Sea_place_D n, impl_Sea_place_enc⟩
def impl_Sea_next_D (n : Nat) (r0 : List (A T)) : Option (List Int) := ocons r0 fun a0 r1 => ocons r1 fun a1 r2 => onil r2 (obind (argV (T := T) 104 a0) fun s0 => obind (argV (T := T) 3 a1) fun p1 => impl_Sea_next n s0 p1)
def impl_Sea_next_ent (n : Nat) : Ent T := ⟨158, 14, [], List Int, impl_Sea_next_D n, impl_Sea_next_enc⟩
def impl_Cheapest_D (n : Nat) (r0 : List (A T)) : Option (List Int × Bool) := ocons r0 fun a0 r1 => ocons r1 fun a1 r2 => onil r2 (obind (argV (T := T) 104 a0) fun s0 => obind (argV (T := T) 3 a1) fun from1 => impl_Cheapest n s0 from1)
def impl_Cheapest_ent (n : Nat) : Ent T := ⟨64, 15, [], List Int × Bool, impl_Cheapest_D n, impl_Cheapest_enc⟩
def impl_Proves_D (n : Nat) (r0 : List (A T)) : Option Bool := ocons r0 fun a0 r1 => ocons r1 fun a1 r2 => ocons r2 fun a2 r3 => onil r3 (obind (argV (T := T) 104 a0) fun s0 => obind (argV (T := T) 3 a1) fun from1 => obind (argV (T := T) 24 a2) fun costs2 => impl_Proves n s0 from1 costs2)
def impl_Proves_ent (n : Nat) : Ent T := ⟨66, 16, [], Bool, impl_Proves_D n, impl_Proves_enc⟩
def laws_at_D (n : Nat) (r0 : List (A T)) : Option Int := ocons r0 fun a0 r1 => ocons r1 fun a1 r2 => onil r2 (obind (argV (T := T) 34 a0) fun code0 => obind (argV (T := T) 3 a1) fun i1 => laws_at n code0 i1)
def laws_at_ent (n : Nat) : Ent T := ⟨23, 17, [], Int, laws_at_D n, laws_at_enc⟩
def impl_own_int_D (n : Nat) (r0 : List (A T)) : Option (List Int) := ocons r0 fun a0 r1 => onil r1 (obind (argV (T := T) 24 a0) fun l0 => impl_own_int n l0)
def impl_own_int_ent (n : Nat) : Ent T := ⟨79, 18, [], List Int, impl_own_int_D n, impl_own_int_enc⟩
def impl_WayOf_D (n : Nat) (r0 : List (A T)) : Option (List Int × Bool) := ocons r0 fun a0 r1 => ocons r1 fun a1 r2 => ocons r2 fun a2 r3 => onil r3 (obind (argV (T := T) 104 a0) fun s0 => obind (argV (T := T) 3 a1) fun from1 => obind (argV (T := T) 3 a2) fun to2 => impl_WayOf n s0 from1 to2)
def impl_WayOf_ent (n : Nat) : Ent T := ⟨67, 19, [], List Int × Bool, impl_WayOf_D n, impl_WayOf_enc⟩
def impl_WayCost_D (n : Nat) (r0 : List (A T)) : Option (Int × Bool) := ocons r0 fun a0 r1 => ocons r1 fun a1 r2 => onil r2 (obind (argV (T := T) 104 a0) fun s0 => obind (argV (T := T) 24 a1) fun way1 => impl_WayCost n s0 way1)
def impl_WayCost_ent (n : Nat) : Ent T := ⟨68, 20, [], Int × Bool, impl_WayCost_D n, impl_WayCost_enc⟩
def impl_Sea_shut_D (n : Nat) (r0 : List (A T)) : Option Bool := ocons r0 fun a0 r1 => ocons r1 fun a1 r2 => ocons r2 fun a2 r3 => onil r3 (obind (argV (T := T) 104 a0) fun s0 => obind (argV (T := T) 3 a1) fun p1 => obind (argV (T := T) 3 a2) fun step2 => impl_Sea_shut n s0 p1 step2)
def impl_Sea_shut_ent (n : Nat) : Ent T := ⟨161, 21, [], Bool, impl_Sea_shut_D n, impl_Sea_shut_enc⟩
def impl_Quickest_D (n : Nat) (r0 : List (A T)) : Option (Int × Bool) := ocons r0 fun a0 r1 => ocons r1 fun a1 r2 => ocons r2 fun a2 r3 => ocons r3 fun a3 r4 => onil r4 (obind (argV (T := T) 104 a0) fun s0 => obind (argV (T := T) 3 a1) fun from1 => obind (argV (T := T) 3 a2) fun to2 => obind (argV (T := T) 3 a3) fun most3 => impl_Quickest n s0 from1 to2 most3)
def impl_Quickest_ent (n : Nat) : Ent T := ⟨69, 22, [], Int × Bool, impl_Quickest_D n, impl_Quickest_enc⟩
def laws_size_D (n : Nat) (r0 : List (A T)) : Option Int := ocons r0 fun a0 r1 => onil r1 (obind (argV (T := T) 3 a0) fun x0 => laws_size n x0)
def laws_size_ent (n : Nat) : Ent T := ⟨70, 23, [], Int, laws_size_D n, laws_size_enc⟩
def impl_WayShut_D (n : Nat) (r0 : List (A T)) : Option (Int × Bool) := ocons r0 fun a0 r1 => ocons r1 fun a1 r2 => onil r2 (obind (argV (T := T) 104 a0) fun s0 => obind (argV (T := T) 24 a1) fun way1 => impl_WayShut n s0 way1)
def impl_WayShut_ent (n : Nat) : Ent T := ⟨71, 24, [], Int × Bool, impl_WayShut_D n, impl_WayShut_enc⟩
def laws_FnCheapest_D (n : Nat) (r0 : List (A T)) : Option Bool := ocons r0 fun a0 r1 => onil r1 (obind (argV (T := T) 34 a0) fun code0 => laws_FnCheapest n code0)
def laws_FnCheapest_ent (n : Nat) : Ent T := ⟨11, 25, [], Bool, laws_FnCheapest_D n, laws_FnCheapest_enc⟩
def ents (n : Nat) : List (Ent T) := [laws_big_ent n, spec_l1New_ent n, spec_l1Byte_ent n, spec_l1Below_ent n, spec_l1Once_ent n, spec_l7Draw_ent n, spec_DrawRightSea_ent n, impl_in_ent n, impl_all_1_ent n, slices_IndexFunc_int_int__impl_all_1_ent n, slices_ContainsFunc_int_int__impl_all_1_ent n, impl_all_ent n, impl_SeaOk_ent n, impl_Sea_place_ent n, impl_Sea_next_ent n, impl_Cheapest_ent n, impl_Proves_ent n, laws_at_ent n, impl_own_int_ent n, impl_WayOf_ent n, impl_WayCost_ent n, impl_Sea_shut_ent n, impl_Quickest_ent n, laws_size_ent n, impl_WayShut_ent n, laws_FnCheapest_ent n]
abbrev Phi (n i : Nat) {R : Type} (f : Nat) (ar : List (A T)) (K : Res T → Option R) : Option R := PhiE (ents n) i f ar K
theorem mixed : Try.prog.follows .mixedOrders = true := by kernel_rfl
noncomputable def laws_big_code : Code := match Try.f21.body with | some c => c | none => .skip
def laws_big_ann : Ann := fun id => none
def laws_big_Ls (n : Nat) : Nat → Option (LSpec T) := fun id => none
theorem laws_big_tie (n : Nat) (code0 : List Int) : evF (T := T) (Phi n 0) (laws_big_Ls n) laws_big_ann n Try.f21 (sg 21) [vA T 34 code0] laws_big_dec = laws_big n code0 := by kernel_rfl
theorem laws_big_lo (n : Nat) : LoopsOk (T := T) (Phi n 0) (laws_big_Ls n) laws_big_ann n laws_big_code := loopsOk_all (cs := []) (by kernel_rfl) trivial
theorem laws_big_ok (n : Nat) : EntOk Try.prog (ents n) (laws_big_ent n) := by
  intro hs ar y hg h
  replace h : laws_big_D n ar = some y := h
  unfold laws_big_D at h
  replace h := ocons_some h
  obtain ⟨a0, r0, rfl, h⟩ := h
  replace h := onil_some h
  obtain ⟨rfl, h⟩ := h
  obtain ⟨code0, qh0, h⟩ := obind_some h
  rw [argV_eq ok qh0]
  exact call_of (phiE_nat _ _) hs ok mixed Try.func21 (c := laws_big_code) (by kernel_rfl) (laws_big_lo n) (by kernel_rfl) (by kernel_rfl) (by kernel_rfl) laws_big_de ((laws_big_tie n code0).trans h)
noncomputable def spec_l1New_code : Code := match Try.f82.body with | some c => c | none => .skip
def spec_l1New_3_sv : List Sv := [.one (.arr 5), .one (.int .i64), .one (.int .i64)]
def spec_l1New_3_so : List So := []
def spec_l1New_3_emb (c : List Int) (x : Int × Int) : EVs T spec_l1New_3_sv × EOs T spec_l1New_3_so := ((c, x.1, x.2, ()), ())
def spec_l1New_3_prj (y : EVs T spec_l1New_3_sv × EOs T spec_l1New_3_so) : List Int × (Int × Int) := ((y.1.1), (y.1.2.1, y.1.2.2.1))
def spec_l1New_3_b (n : Nat) {R : Type} (K : Ex → Sm.St T → Option R) (c : List Int) (x : Int × Int) (J : (Int × Int) → Option R) : Option R :=
  spec_l1New_L3 n (fun (y1 : Int) => K (.exit 0) (stOf (T := T) [0, 3] [] [.one (.arr 5), .one (.int .i64)] [] (c, y1, ()) ())) (fun z0 z1 => J (z0, z1)) c x.1 x.2
def spec_l1New_3_sp (n : Nat) : LSpec T := mkSpec T ⟨[], [0, 3, 4], []⟩ spec_l1New_3_sv spec_l1New_3_so (List Int) (Int × Int) spec_l1New_3_emb spec_l1New_3_prj (spec_l1New_3_b n)
noncomputable def spec_l1New_3_c : Code := ((loopCodes spec_l1New_code)[0]?).getD .skip
def spec_l1New_ann : Ann := fun id => bif Nat.beq id 3000003 then some ⟨[], [0, 3], []⟩ else none
def spec_l1New_Ls (n : Nat) : Nat → Option (LSpec T) := fun id => bif Nat.beq id 3 then some (spec_l1New_3_sp n) else none
theorem spec_l1New_3_le (n : Nat) : LoopEq (T := T) (Phi n 1) (spec_l1New_Ls n) spec_l1New_ann n spec_l1New_3_c (spec_l1New_3_sp n) := ⟨mkSpec_dec (fun y => rfl), fun c x => by kernel_rfl, fun K J c x => by kernel_rfl⟩
theorem spec_l1New_tie (n : Nat) (code0 : List Int) : evF (T := T) (Phi n 1) (spec_l1New_Ls n) spec_l1New_ann n Try.f82 (sg 82) [vA T 34 code0] spec_l1New_dec = spec_l1New n code0 := by kernel_rfl
theorem spec_l1New_lo (n : Nat) : LoopsOk (T := T) (Phi n 1) (spec_l1New_Ls n) spec_l1New_ann n spec_l1New_code := loopsOk_all (cs := [spec_l1New_3_c]) (by kernel_rfl) ⟨⟨_, by kernel_rfl, spec_l1New_3_le n⟩, trivial⟩
theorem spec_l1New_ok (n : Nat) : EntOk Try.prog (ents n) (spec_l1New_ent n) := by
  intro hs ar y hg h
  replace h : spec_l1New_D n ar = some y := h
  unfold spec_l1New_D at h
  replace h := ocons_some h
  obtain ⟨a0, r0, rfl, h⟩ := h
  replace h := onil_some h
  obtain ⟨rfl, h⟩ := h
  obtain ⟨code0, qh0, h⟩ := obind_some h
  rw [argV_eq ok qh0]
  exact call_of (phiE_nat _ _) hs ok mixed Try.func82 (c := spec_l1New_code) (by kernel_rfl) (spec_l1New_lo n) (by kernel_rfl) (by kernel_rfl) (by kernel_rfl) spec_l1New_de ((spec_l1New_tie n code0).trans h)
noncomputable def spec_l1Byte_code : Code := match Try.f188.body with | some c => c | none => .skip
def spec_l1Byte_ann : Ann := fun id => none
def spec_l1Byte_Ls (n : Nat) : Nat → Option (LSpec T) := fun id => none
theorem spec_l1Byte_tie (n : Nat) (c0 : Sl1Cur) : evF (T := T) (Phi n 2) (spec_l1Byte_Ls n) spec_l1Byte_ann n Try.f188 (sg 188) [.ptr 184 c0] spec_l1Byte_dec = spec_l1Byte n c0 := by kernel_rfl
theorem spec_l1Byte_lo (n : Nat) : LoopsOk (T := T) (Phi n 2) (spec_l1Byte_Ls n) spec_l1Byte_ann n spec_l1Byte_code := loopsOk_all (cs := []) (by kernel_rfl) trivial
theorem spec_l1Byte_ok (n : Nat) : EntOk Try.prog (ents n) (spec_l1Byte_ent n) := by
  intro hs ar y hg h
  replace h : spec_l1Byte_D n ar = some y := h
  unfold spec_l1Byte_D at h
  replace h := ocons_some h
  obtain ⟨a0, r0, rfl, h⟩ := h
  replace h := onil_some h
  obtain ⟨rfl, h⟩ := h
  obtain ⟨c0, qh0, h⟩ := obind_some h
  rw [argP_eq qh0]
  exact call_of (phiE_nat _ _) hs ok mixed Try.func188 (c := spec_l1Byte_code) (by kernel_rfl) (spec_l1Byte_lo n) (by kernel_rfl) (by kernel_rfl) (by kernel_rfl) spec_l1Byte_de ((spec_l1Byte_tie n c0).trans h)
noncomputable def spec_l1Below_code : Code := match Try.f132.body with | some c => c | none => .skip
def spec_l1Below_ann : Ann := fun id => none
def spec_l1Below_Ls (n : Nat) : Nat → Option (LSpec T) := fun id => none
theorem spec_l1Below_tie (n : Nat) (c0 : Sl1Cur) (n1 : Int) : evF (T := T) (Phi n 3) (spec_l1Below_Ls n) spec_l1Below_ann n Try.f132 (sg 132) [.ptr 184 c0, vA T 3 n1] spec_l1Below_dec = spec_l1Below n c0 n1 := by kernel_rfl
theorem spec_l1Below_lo (n : Nat) : LoopsOk (T := T) (Phi n 3) (spec_l1Below_Ls n) spec_l1Below_ann n spec_l1Below_code := loopsOk_all (cs := []) (by kernel_rfl) trivial
theorem spec_l1Below_ok (n : Nat) : EntOk Try.prog (ents n) (spec_l1Below_ent n) := by
  intro hs ar y hg h
  replace h : spec_l1Below_D n ar = some y := h
  unfold spec_l1Below_D at h
  replace h := ocons_some h
  obtain ⟨a0, r0, rfl, h⟩ := h
  replace h := ocons_some h
  obtain ⟨a1, r1, rfl, h⟩ := h
  replace h := onil_some h
  obtain ⟨rfl, h⟩ := h
  obtain ⟨c0, qh0, h⟩ := obind_some h
  obtain ⟨n1, qh1, h⟩ := obind_some h
  rw [argP_eq qh0, argV_eq ok qh1]
  exact call_of (phiE_nat _ _) hs ok mixed Try.func132 (c := spec_l1Below_code) (by kernel_rfl) (spec_l1Below_lo n) (by kernel_rfl) (by kernel_rfl) (by kernel_rfl) spec_l1Below_de ((spec_l1Below_tie n c0 n1).trans h)
noncomputable def spec_l1Once_code : Code := match Try.f172.body with | some c => c | none => .skip
def spec_l1Once_ann : Ann := fun id => none
def spec_l1Once_Ls (n : Nat) : Nat → Option (LSpec T) := fun id => none
theorem spec_l1Once_tie (n : Nat) (c0 : Sl1Cur) (n1 : Int) : evF (T := T) (Phi n 4) (spec_l1Once_Ls n) spec_l1Once_ann n Try.f172 (sg 172) [.ptr 184 c0, vA T 3 n1] spec_l1Once_dec = spec_l1Once n c0 n1 := by kernel_rfl
theorem spec_l1Once_lo (n : Nat) : LoopsOk (T := T) (Phi n 4) (spec_l1Once_Ls n) spec_l1Once_ann n spec_l1Once_code := loopsOk_all (cs := []) (by kernel_rfl) trivial
theorem spec_l1Once_ok (n : Nat) : EntOk Try.prog (ents n) (spec_l1Once_ent n) := by
  intro hs ar y hg h
  replace h : spec_l1Once_D n ar = some y := h
  unfold spec_l1Once_D at h
  replace h := ocons_some h
  obtain ⟨a0, r0, rfl, h⟩ := h
  replace h := ocons_some h
  obtain ⟨a1, r1, rfl, h⟩ := h
  replace h := onil_some h
  obtain ⟨rfl, h⟩ := h
  obtain ⟨c0, qh0, h⟩ := obind_some h
  obtain ⟨n1, qh1, h⟩ := obind_some h
  rw [argP_eq qh0, argV_eq ok qh1]
  exact call_of (phiE_nat _ _) hs ok mixed Try.func172 (c := spec_l1Once_code) (by kernel_rfl) (spec_l1Once_lo n) (by kernel_rfl) (by kernel_rfl) (by kernel_rfl) spec_l1Once_de ((spec_l1Once_tie n c0 n1).trans h)
noncomputable def spec_l7Draw_code : Code := match Try.f156.body with | some c => c | none => .skip
def spec_l7Draw_3_sv : List Sv := [.one (.ptr 4503599627370496 0 0), .one (.ptr 16 0 0), .one (.ptr 24 0 0), .one (.int .i64)]
def spec_l7Draw_3_so : List So := [.var [.arr 5, .int .i64, .int .i64], .var [.int .i64, .int .i64, .own 3000000 3 false, .own 3000001 179 false], .arr 3 false, .arr 179 false, .var [.int .i64, .int .i64, .own 3000002 3 false, .own 3000003 179 false], .arr 3 false, .arr 179 false]
def spec_l7Draw_3_emb (c : Int × Int × List Int × List SClosed × Int × Int × List SClosed) (x : Int × Sl1Cur × List Int) : EVs T spec_l7Draw_3_sv × EOs T spec_l7Draw_3_so := (((), (), (), x.1, ()), ((x.2.1.b, x.2.1.i, x.2.1.h, ()), (c.1, c.2.1, (), (), ()), c.2.2.1, c.2.2.2.1, (c.2.2.2.2.1, c.2.2.2.2.2.1, (), (), ()), x.2.2, c.2.2.2.2.2.2, ()))
def spec_l7Draw_3_prj (y : EVs T spec_l7Draw_3_sv × EOs T spec_l7Draw_3_so) : (Int × Int × List Int × List SClosed × Int × Int × List SClosed) × (Int × Sl1Cur × List Int) := ((y.2.2.1.1, y.2.2.1.2.1, y.2.2.2.1, y.2.2.2.2.1, y.2.2.2.2.2.1.1, y.2.2.2.2.2.1.2.1, y.2.2.2.2.2.2.2.1), (y.1.2.2.2.1, ((⟨y.2.1.1, y.2.1.2.1, y.2.1.2.2.1⟩ : Sl1Cur) : Sl1Cur), y.2.2.2.2.2.2.1))
def spec_l7Draw_3_b (n : Nat) {R : Type} (K : Ex → Sm.St T → Option R) (c : Int × Int × List Int × List SClosed × Int × Int × List SClosed) (x : Int × Sl1Cur × List Int) (J : (Int × Sl1Cur × List Int) → Option R) : Option R :=
  spec_l7Draw_L3 n (fun (y0 : Sl1Cur) (y7 : List Int) => K (.exit 0) (stOf (T := T) [0, 2, 3] [4503599627370496, 16, 3000000, 3000001, 24, 3000002, 3000003] [.one (.ptr 4503599627370496 0 0), .one (.ptr 16 0 0), .one (.ptr 24 0 0)] [.var [.arr 5, .int .i64, .int .i64], .var [.int .i64, .int .i64, .own 3000000 3 false, .own 3000001 179 false], .arr 3 false, .arr 179 false, .var [.int .i64, .int .i64, .own 3000002 3 false, .own 3000003 179 false], .arr 3 false, .arr 179 false] ((), (), (), ()) ((y0.b, y0.i, y0.h, ()), (c.1, c.2.1, (), (), ()), c.2.2.1, c.2.2.2.1, (c.2.2.2.2.1, c.2.2.2.2.2.1, (), (), ()), y7, c.2.2.2.2.2.2, ()))) (fun z0 z1 z2 => J (z0, z1, z2)) x.1 x.2.1 c.1 c.2.1 c.2.2.1 c.2.2.2.1 c.2.2.2.2.1 c.2.2.2.2.2.1 x.2.2 c.2.2.2.2.2.2
def spec_l7Draw_3_sp (n : Nat) : LSpec T := mkSpec T ⟨[((.cell 16 2), 3000000, 3), ((.cell 16 3), 3000001, 179), ((.cell 24 2), 3000002, 3), ((.cell 24 3), 3000003, 179)], [0, 2, 3, 4], [4503599627370496, 16, 3000000, 3000001, 24, 3000002, 3000003]⟩ spec_l7Draw_3_sv spec_l7Draw_3_so (Int × Int × List Int × List SClosed × Int × Int × List SClosed) (Int × Sl1Cur × List Int) spec_l7Draw_3_emb spec_l7Draw_3_prj (spec_l7Draw_3_b n)
noncomputable def spec_l7Draw_3_c : Code := ((loopCodes spec_l7Draw_code)[0]?).getD .skip
def spec_l7Draw_10_sv : List Sv := [.one (.ptr 4503599627370496 0 0), .one (.ptr 16 0 0), .one (.ptr 24 0 0), .one (.int .i64)]
def spec_l7Draw_10_so : List So := [.var [.arr 5, .int .i64, .int .i64], .var [.int .i64, .int .i64, .own 3000000 3 false, .own 3000001 179 false], .arr 3 false, .arr 179 false, .var [.int .i64, .int .i64, .own 3000002 3 false, .own 3000003 179 false], .arr 3 false, .arr 179 false]
def spec_l7Draw_10_emb (c : Int × Int × List Int × List SClosed × Int × Int × List Int) (x : Int × Sl1Cur × List SClosed) : EVs T spec_l7Draw_10_sv × EOs T spec_l7Draw_10_so := (((), (), (), x.1, ()), ((x.2.1.b, x.2.1.i, x.2.1.h, ()), (c.1, c.2.1, (), (), ()), c.2.2.1, c.2.2.2.1, (c.2.2.2.2.1, c.2.2.2.2.2.1, (), (), ()), c.2.2.2.2.2.2, x.2.2, ()))
def spec_l7Draw_10_prj (y : EVs T spec_l7Draw_10_sv × EOs T spec_l7Draw_10_so) : (Int × Int × List Int × List SClosed × Int × Int × List Int) × (Int × Sl1Cur × List SClosed) := ((y.2.2.1.1, y.2.2.1.2.1, y.2.2.2.1, y.2.2.2.2.1, y.2.2.2.2.2.1.1, y.2.2.2.2.2.1.2.1, y.2.2.2.2.2.2.1), (y.1.2.2.2.1, ((⟨y.2.1.1, y.2.1.2.1, y.2.1.2.2.1⟩ : Sl1Cur) : Sl1Cur), y.2.2.2.2.2.2.2.1))
def spec_l7Draw_10_b (n : Nat) {R : Type} (K : Ex → Sm.St T → Option R) (c : Int × Int × List Int × List SClosed × Int × Int × List Int) (x : Int × Sl1Cur × List SClosed) (J : (Int × Sl1Cur × List SClosed) → Option R) : Option R :=
  spec_l7Draw_L10 n (fun (y7 : List SClosed) (y8 : Sl1Cur) => K (.exit 2) (stOf (T := T) [2, 3] [16, 3000000, 3000001, 24, 3000002, 3000003, 4503599627370496] [.one (.ptr 16 0 0), .one (.ptr 24 0 0)] [.var [.int .i64, .int .i64, .own 3000000 3 false, .own 3000001 179 false], .arr 3 false, .arr 179 false, .var [.int .i64, .int .i64, .own 3000002 3 false, .own 3000003 179 false], .arr 3 false, .arr 179 false, .var [.arr 5, .int .i64, .int .i64]] ((), (), ()) ((c.1, c.2.1, (), (), ()), c.2.2.1, c.2.2.2.1, (c.2.2.2.2.1, c.2.2.2.2.2.1, (), (), ()), c.2.2.2.2.2.2, y7, (y8.b, y8.i, y8.h, ()), ()))) (fun z0 z1 z2 => J (z0, z1, z2)) x.1 x.2.1 c.1 c.2.1 c.2.2.1 c.2.2.2.1 c.2.2.2.2.1 c.2.2.2.2.2.1 c.2.2.2.2.2.2 x.2.2
def spec_l7Draw_10_sp (n : Nat) : LSpec T := mkSpec T ⟨[((.cell 16 2), 3000000, 3), ((.cell 16 3), 3000001, 179), ((.cell 24 2), 3000002, 3), ((.cell 24 3), 3000003, 179)], [0, 2, 3, 6], [4503599627370496, 16, 3000000, 3000001, 24, 3000002, 3000003]⟩ spec_l7Draw_10_sv spec_l7Draw_10_so (Int × Int × List Int × List SClosed × Int × Int × List Int) (Int × Sl1Cur × List SClosed) spec_l7Draw_10_emb spec_l7Draw_10_prj (spec_l7Draw_10_b n)
noncomputable def spec_l7Draw_10_c : Code := ((loopCodes spec_l7Draw_code)[1]?).getD .skip
def spec_l7Draw_ann : Ann := fun id => bif Nat.beq id 3000003 then some ⟨[((.cell 16 2), 3000000, 3), ((.cell 16 3), 3000001, 179), ((.cell 24 2), 3000002, 3), ((.cell 24 3), 3000003, 179)], [0, 2, 3], [4503599627370496, 16, 3000000, 3000001, 24, 3000002, 3000003]⟩ else bif Nat.beq id 5000010 then some ⟨[((.cell 16 2), 3000000, 3), ((.cell 16 3), 3000001, 179), ((.cell 24 2), 3000002, 3), ((.cell 24 3), 3000003, 179)], [2, 3], [16, 3000000, 3000001, 24, 3000002, 3000003, 4503599627370496]⟩ else none
def spec_l7Draw_Ls (n : Nat) : Nat → Option (LSpec T) := fun id => bif Nat.beq id 3 then some (spec_l7Draw_3_sp n) else bif Nat.beq id 10 then some (spec_l7Draw_10_sp n) else none
theorem spec_l7Draw_3_le (n : Nat) : LoopEq (T := T) (Phi n 5) (spec_l7Draw_Ls n) spec_l7Draw_ann n spec_l7Draw_3_c (spec_l7Draw_3_sp n) := ⟨mkSpec_dec (fun y => rfl), fun c x => by kernel_rfl, fun K J c x => by kernel_rfl⟩
theorem spec_l7Draw_10_le (n : Nat) : LoopEq (T := T) (Phi n 5) (spec_l7Draw_Ls n) spec_l7Draw_ann n spec_l7Draw_10_c (spec_l7Draw_10_sp n) := ⟨mkSpec_dec (fun y => rfl), fun c x => by kernel_rfl, fun K J c x => by kernel_rfl⟩
theorem spec_l7Draw_tie (n : Nat) (c0 : Sl1Cur) : evF (T := T) (Phi n 5) (spec_l7Draw_Ls n) spec_l7Draw_ann n Try.f156 (sg 156) [.ptr 184 c0] spec_l7Draw_dec = spec_l7Draw n c0 := by kernel_rfl
theorem spec_l7Draw_lo (n : Nat) : LoopsOk (T := T) (Phi n 5) (spec_l7Draw_Ls n) spec_l7Draw_ann n spec_l7Draw_code := loopsOk_all (cs := [spec_l7Draw_3_c, spec_l7Draw_10_c]) (by kernel_rfl) ⟨⟨_, by kernel_rfl, spec_l7Draw_3_le n⟩, ⟨_, by kernel_rfl, spec_l7Draw_10_le n⟩, trivial⟩
theorem spec_l7Draw_ok (n : Nat) : EntOk Try.prog (ents n) (spec_l7Draw_ent n) := by
  intro hs ar y hg h
  replace h : spec_l7Draw_D n ar = some y := h
  unfold spec_l7Draw_D at h
  replace h := ocons_some h
  obtain ⟨a0, r0, rfl, h⟩ := h
  replace h := onil_some h
  obtain ⟨rfl, h⟩ := h
  obtain ⟨c0, qh0, h⟩ := obind_some h
  rw [argP_eq qh0]
  exact call_of (phiE_nat _ _) hs ok mixed Try.func156 (c := spec_l7Draw_code) (by kernel_rfl) (spec_l7Draw_lo n) (by kernel_rfl) (by kernel_rfl) (by kernel_rfl) spec_l7Draw_de ((spec_l7Draw_tie n c0).trans h)
noncomputable def spec_DrawRightSea_code : Code := match Try.f63.body with | some c => c | none => .skip
def spec_DrawRightSea_4_sv : List Sv := [.one (.ptr 16 0 0), .one (.ptr 72 0 0), .one (.ptr 40 0 0), .one (.int .i64)]
def spec_DrawRightSea_4_so : List So := [.var [.int .i64, .int .i64, .own 3000000 3 false, .own 3000001 179 false], .arr 3 false, .arr 179 false, .var [.arr 5, .int .i64, .int .i64], .var [.int .i64, .int .i64, .own 3000002 3 false, .own 3000003 179 false], .arr 3 false, .arr 179 false]
def spec_DrawRightSea_4_emb (c : Int × Int × List Int × List SClosed × Int × Int × List Int × List SClosed) (x : Int × Sl1Cur) : EVs T spec_DrawRightSea_4_sv × EOs T spec_DrawRightSea_4_so := (((), (), (), x.1, ()), ((c.1, c.2.1, (), (), ()), c.2.2.1, c.2.2.2.1, (x.2.b, x.2.i, x.2.h, ()), (c.2.2.2.2.1, c.2.2.2.2.2.1, (), (), ()), c.2.2.2.2.2.2.1, c.2.2.2.2.2.2.2, ()))
def spec_DrawRightSea_4_prj (y : EVs T spec_DrawRightSea_4_sv × EOs T spec_DrawRightSea_4_so) : (Int × Int × List Int × List SClosed × Int × Int × List Int × List SClosed) × (Int × Sl1Cur) := ((y.2.1.1, y.2.1.2.1, y.2.2.1, y.2.2.2.1, y.2.2.2.2.2.1.1, y.2.2.2.2.2.1.2.1, y.2.2.2.2.2.2.1, y.2.2.2.2.2.2.2.1), (y.1.2.2.2.1, ((⟨y.2.2.2.2.1.1, y.2.2.2.2.1.2.1, y.2.2.2.2.1.2.2.1⟩ : Sl1Cur) : Sl1Cur)))
def spec_DrawRightSea_4_b (n : Nat) {R : Type} (K : Ex → Sm.St T → Option R) (c : Int × Int × List Int × List SClosed × Int × Int × List Int × List SClosed) (x : Int × Sl1Cur) (J : (Int × Sl1Cur) → Option R) : Option R :=
  spec_DrawRightSea_L4 n (K (.exit 0) (stOf (T := T) [2, 5] [16, 3000000, 3000001, 40, 3000002, 3000003] [.one (.ptr 16 0 0), .one (.ptr 40 0 0)] [.var [.int .i64, .int .i64, .own 3000000 3 false, .own 3000001 179 false], .arr 3 false, .arr 179 false, .var [.int .i64, .int .i64, .own 3000002 3 false, .own 3000003 179 false], .arr 3 false, .arr 179 false] ((), (), ()) ((c.1, c.2.1, (), (), ()), c.2.2.1, c.2.2.2.1, (c.2.2.2.2.1, c.2.2.2.2.2.1, (), (), ()), c.2.2.2.2.2.2.1, c.2.2.2.2.2.2.2, ()))) (fun (y0 : Int) => K .ret (stOf (T := T) [2, 3] [16, 3000000, 3000001] [.one (.ptr 16 0 0), .one (.int .i64)] [.var [.int .i64, .int .i64, .own 3000000 3 false, .own 3000001 179 false], .arr 3 false, .arr 179 false] ((), y0, ()) ((c.2.2.2.2.1, c.2.2.2.2.2.1, (), (), ()), c.2.2.2.2.2.2.1, c.2.2.2.2.2.2.2, ()))) (fun z0 z1 => J (z0, z1)) x.1 c.1 c.2.1 c.2.2.1 c.2.2.2.1 x.2 c.2.2.2.2.1 c.2.2.2.2.2.1 c.2.2.2.2.2.2.1 c.2.2.2.2.2.2.2
def spec_DrawRightSea_4_sp (n : Nat) : LSpec T := mkSpec T ⟨[((.cell 16 2), 3000000, 3), ((.cell 16 3), 3000001, 179), ((.cell 40 2), 3000002, 3), ((.cell 40 3), 3000003, 179)], [2, 4, 5, 6], [16, 3000000, 3000001, 72, 40, 3000002, 3000003]⟩ spec_DrawRightSea_4_sv spec_DrawRightSea_4_so (Int × Int × List Int × List SClosed × Int × Int × List Int × List SClosed) (Int × Sl1Cur) spec_DrawRightSea_4_emb spec_DrawRightSea_4_prj (spec_DrawRightSea_4_b n)
noncomputable def spec_DrawRightSea_4_c : Code := ((loopCodes spec_DrawRightSea_code)[0]?).getD .skip
def spec_DrawRightSea_ann : Ann := fun id => bif Nat.beq id 3000004 then some ⟨[((.cell 16 2), 3000000, 3), ((.cell 16 3), 3000001, 179), ((.cell 40 2), 3000002, 3), ((.cell 40 3), 3000003, 179)], [2, 5], [16, 3000000, 3000001, 40, 3000002, 3000003]⟩ else bif Nat.beq id 2000004 then some ⟨[((.cell 16 2), 3000000, 3), ((.cell 16 3), 3000001, 179)], [2, 3], [16, 3000000, 3000001]⟩ else none
def spec_DrawRightSea_Ls (n : Nat) : Nat → Option (LSpec T) := fun id => bif Nat.beq id 4 then some (spec_DrawRightSea_4_sp n) else none
theorem spec_DrawRightSea_4_le (n : Nat) : LoopEq (T := T) (Phi n 6) (spec_DrawRightSea_Ls n) spec_DrawRightSea_ann n spec_DrawRightSea_4_c (spec_DrawRightSea_4_sp n) := ⟨mkSpec_dec (fun y => rfl), fun c x => by kernel_rfl, fun K J c x => by kernel_rfl⟩
theorem spec_DrawRightSea_tie (n : Nat) (code0 : List Int) : evF (T := T) (Phi n 6) (spec_DrawRightSea_Ls n) spec_DrawRightSea_ann n Try.f63 (sg 63) [vA T 34 code0] spec_DrawRightSea_dec = spec_DrawRightSea n code0 := by kernel_rfl
theorem spec_DrawRightSea_lo (n : Nat) : LoopsOk (T := T) (Phi n 6) (spec_DrawRightSea_Ls n) spec_DrawRightSea_ann n spec_DrawRightSea_code := loopsOk_all (cs := [spec_DrawRightSea_4_c]) (by kernel_rfl) ⟨⟨_, by kernel_rfl, spec_DrawRightSea_4_le n⟩, trivial⟩
theorem spec_DrawRightSea_ok (n : Nat) : EntOk Try.prog (ents n) (spec_DrawRightSea_ent n) := by
  intro hs ar y hg h
  replace h : spec_DrawRightSea_D n ar = some y := h
  unfold spec_DrawRightSea_D at h
  replace h := ocons_some h
  obtain ⟨a0, r0, rfl, h⟩ := h
  replace h := onil_some h
  obtain ⟨rfl, h⟩ := h
  obtain ⟨code0, qh0, h⟩ := obind_some h
  rw [argV_eq ok qh0]
  exact call_of (phiE_nat _ _) hs ok mixed Try.func63 (c := spec_DrawRightSea_code) (by kernel_rfl) (spec_DrawRightSea_lo n) (by kernel_rfl) (by kernel_rfl) (by kernel_rfl) spec_DrawRightSea_de ((spec_DrawRightSea_tie n code0).trans h)
noncomputable def impl_in_code : Code := match Try.f87.body with | some c => c | none => .skip
def impl_in_ann : Ann := fun id => none
def impl_in_Ls (n : Nat) : Nat → Option (LSpec T) := fun id => none
theorem impl_in_tie (n : Nat) (n0 : Int) (least1 : Int) (most2 : Int) : evF (T := T) (Phi n 7) (impl_in_Ls n) impl_in_ann n Try.f87 (sg 87) [vA T 3 n0, vA T 3 least1, vA T 3 most2] impl_in_dec = impl_in n n0 least1 most2 := by kernel_rfl
theorem impl_in_lo (n : Nat) : LoopsOk (T := T) (Phi n 7) (impl_in_Ls n) impl_in_ann n impl_in_code := loopsOk_all (cs := []) (by kernel_rfl) trivial
theorem impl_in_ok (n : Nat) : EntOk Try.prog (ents n) (impl_in_ent n) := by
  intro hs ar y hg h
  replace h : impl_in_D n ar = some y := h
  unfold impl_in_D at h
  replace h := ocons_some h
  obtain ⟨a0, r0, rfl, h⟩ := h
  replace h := ocons_some h
  obtain ⟨a1, r1, rfl, h⟩ := h
  replace h := ocons_some h
  obtain ⟨a2, r2, rfl, h⟩ := h
  replace h := onil_some h
  obtain ⟨rfl, h⟩ := h
  obtain ⟨n0, qh0, h⟩ := obind_some h
  obtain ⟨least1, qh1, h⟩ := obind_some h
  obtain ⟨most2, qh2, h⟩ := obind_some h
  rw [argV_eq ok qh0, argV_eq ok qh1, argV_eq ok qh2]
  exact call_of (phiE_nat _ _) hs ok mixed Try.func87 (c := impl_in_code) (by kernel_rfl) (impl_in_lo n) (by kernel_rfl) (by kernel_rfl) (by kernel_rfl) impl_in_de ((impl_in_tie n n0 least1 most2).trans h)
noncomputable def impl_all_1_code : Code := match Try.f200.body with | some c => c | none => .skip
def impl_all_1_ann : Ann := fun id => none
def impl_all_1_Ls (n : Nat) : Nat → Option (LSpec T) := fun id => none
theorem impl_all_1_tie (n : Nat) (n0 : Int) (a1 : Int) (a2 : Int) : evF (T := T) (Phi n 8) (impl_all_1_Ls n) impl_all_1_ann n Try.f200 (sg 200) [vA T 3 n0, .ptr 3 a1, .ptr 3 a2] impl_all_1_dec = impl_all_1 n n0 a1 a2 := by kernel_rfl
theorem impl_all_1_lo (n : Nat) : LoopsOk (T := T) (Phi n 8) (impl_all_1_Ls n) impl_all_1_ann n impl_all_1_code := loopsOk_all (cs := []) (by kernel_rfl) trivial
theorem impl_all_1_ok (n : Nat) : EntOk Try.prog (ents n) (impl_all_1_ent n) := by
  intro hs ar y hg h
  replace h : impl_all_1_D n ar = some y := h
  unfold impl_all_1_D at h
  replace h := ocons_some h
  obtain ⟨a0, r0, rfl, h⟩ := h
  replace h := ocons_some h
  obtain ⟨a1, r1, rfl, h⟩ := h
  replace h := ocons_some h
  obtain ⟨a2, r2, rfl, h⟩ := h
  replace h := onil_some h
  obtain ⟨rfl, h⟩ := h
  obtain ⟨n0, qh0, h⟩ := obind_some h
  obtain ⟨a1, qh1, h⟩ := obind_some h
  obtain ⟨a2, qh2, h⟩ := obind_some h
  rw [argV_eq ok qh0, argP_eq qh1, argP_eq qh2]
  exact call_of (phiE_nat _ _) hs ok mixed Try.func200 (c := impl_all_1_code) (by kernel_rfl) (impl_all_1_lo n) (by kernel_rfl) (by kernel_rfl) (by kernel_rfl) impl_all_1_de ((impl_all_1_tie n n0 a1 a2).trans h)
noncomputable def slices_IndexFunc_int_int__impl_all_1_code : Code := match Try.f233.body with | some c => c | none => .skip
def slices_IndexFunc_int_int__impl_all_1_2_sv : List Sv := [.one (.arr 3), .one (.fnr 200 [3, 3]), .one (.int .i64), .one (.int .i64)]
def slices_IndexFunc_int_int__impl_all_1_2_so : List So := []
def slices_IndexFunc_int_int__impl_all_1_2_emb (c : List Int × Int × Int × Int) (x : Int) : EVs T slices_IndexFunc_int_int__impl_all_1_2_sv × EOs T slices_IndexFunc_int_int__impl_all_1_2_so := ((c.1, (c.2.1, c.2.2.1, ()), c.2.2.2, x, ()), ())
def slices_IndexFunc_int_int__impl_all_1_2_prj (y : EVs T slices_IndexFunc_int_int__impl_all_1_2_sv × EOs T slices_IndexFunc_int_int__impl_all_1_2_so) : (List Int × Int × Int × Int) × Int := ((y.1.1, y.1.2.1.1, y.1.2.1.2.1, y.1.2.2.1), (y.1.2.2.2.1))
def slices_IndexFunc_int_int__impl_all_1_2_b (n : Nat) {R : Type} (K : Ex → Sm.St T → Option R) (c : List Int × Int × Int × Int) (x : Int) (J : Int → Option R) : Option R :=
  slices_IndexFunc_int_int__impl_all_1_L2 n (K (.exit 0) (stOf (T := T) [] [] [] [] () ())) (fun (y0 : Int) => K .ret (stOf (T := T) [4] [] [.one (.int .i64)] [] (y0, ()) ())) J c.1 c.2.1 c.2.2.1 c.2.2.2 x
def slices_IndexFunc_int_int__impl_all_1_2_sp (n : Nat) : LSpec T := mkSpec T ⟨[], [0, 1, 7, 8], []⟩ slices_IndexFunc_int_int__impl_all_1_2_sv slices_IndexFunc_int_int__impl_all_1_2_so (List Int × Int × Int × Int) (Int) slices_IndexFunc_int_int__impl_all_1_2_emb slices_IndexFunc_int_int__impl_all_1_2_prj (slices_IndexFunc_int_int__impl_all_1_2_b n)
noncomputable def slices_IndexFunc_int_int__impl_all_1_2_c : Code := ((loopCodes slices_IndexFunc_int_int__impl_all_1_code)[0]?).getD .skip
def slices_IndexFunc_int_int__impl_all_1_ann : Ann := fun id => bif Nat.beq id 3000002 then some ⟨[], [], []⟩ else bif Nat.beq id 2000002 then some ⟨[], [4], []⟩ else none
def slices_IndexFunc_int_int__impl_all_1_Ls (n : Nat) : Nat → Option (LSpec T) := fun id => bif Nat.beq id 2 then some (slices_IndexFunc_int_int__impl_all_1_2_sp n) else none
theorem slices_IndexFunc_int_int__impl_all_1_2_le (n : Nat) : LoopEq (T := T) (Phi n 9) (slices_IndexFunc_int_int__impl_all_1_Ls n) slices_IndexFunc_int_int__impl_all_1_ann n slices_IndexFunc_int_int__impl_all_1_2_c (slices_IndexFunc_int_int__impl_all_1_2_sp n) := ⟨mkSpec_dec (fun y => rfl), fun c x => by kernel_rfl, fun K J c x => by kernel_rfl⟩
theorem slices_IndexFunc_int_int__impl_all_1_tie (n : Nat) (s0 : List Int) (f1c0 : Int) (f1c1 : Int) : evF (T := T) (Phi n 9) (slices_IndexFunc_int_int__impl_all_1_Ls n) slices_IndexFunc_int_int__impl_all_1_ann n Try.f233 (sg 233) [vA T 24 s0, .fn 200 [.ptr 3 f1c0, .ptr 3 f1c1]] slices_IndexFunc_int_int__impl_all_1_dec = slices_IndexFunc_int_int__impl_all_1 n s0 f1c0 f1c1 := by kernel_rfl
theorem slices_IndexFunc_int_int__impl_all_1_lo (n : Nat) : LoopsOk (T := T) (Phi n 9) (slices_IndexFunc_int_int__impl_all_1_Ls n) slices_IndexFunc_int_int__impl_all_1_ann n slices_IndexFunc_int_int__impl_all_1_code := loopsOk_all (cs := [slices_IndexFunc_int_int__impl_all_1_2_c]) (by kernel_rfl) ⟨⟨_, by kernel_rfl, slices_IndexFunc_int_int__impl_all_1_2_le n⟩, trivial⟩
theorem slices_IndexFunc_int_int__impl_all_1_ok (n : Nat) : EntOk Try.prog (ents n) (slices_IndexFunc_int_int__impl_all_1_ent n) := by
  intro hs ar y hg h
  replace h : slices_IndexFunc_int_int__impl_all_1_D n ar = some y := h
  unfold slices_IndexFunc_int_int__impl_all_1_D at h
  split at h
  · obtain ⟨s0, qh0, h⟩ := obind_some h
    obtain ⟨f1c0, qh1, h⟩ := obind_some h
    obtain ⟨f1c1, qh2, h⟩ := obind_some h
    rw [argV_eq ok qh0, argP_eq qh1, argP_eq qh2] at hg ⊢
    cases (show [_] = [200] from natsEq_eq hg)
    exact call_of (phiE_nat _ _) hs ok mixed Try.func233 (c := slices_IndexFunc_int_int__impl_all_1_code) (by kernel_rfl) (slices_IndexFunc_int_int__impl_all_1_lo n) (by kernel_rfl) (by kernel_rfl) (by kernel_rfl) slices_IndexFunc_int_int__impl_all_1_de ((slices_IndexFunc_int_int__impl_all_1_tie n s0 f1c0 f1c1).trans h)
  · cases h
noncomputable def slices_ContainsFunc_int_int__impl_all_1_code : Code := match Try.f199.body with | some c => c | none => .skip
def slices_ContainsFunc_int_int__impl_all_1_ann : Ann := fun id => none
def slices_ContainsFunc_int_int__impl_all_1_Ls (n : Nat) : Nat → Option (LSpec T) := fun id => none
theorem slices_ContainsFunc_int_int__impl_all_1_tie (n : Nat) (s0 : List Int) (f1c0 : Int) (f1c1 : Int) : evF (T := T) (Phi n 10) (slices_ContainsFunc_int_int__impl_all_1_Ls n) slices_ContainsFunc_int_int__impl_all_1_ann n Try.f199 (sg 199) [vA T 24 s0, .fn 200 [.ptr 3 f1c0, .ptr 3 f1c1]] slices_ContainsFunc_int_int__impl_all_1_dec = slices_ContainsFunc_int_int__impl_all_1 n s0 f1c0 f1c1 := by kernel_rfl
theorem slices_ContainsFunc_int_int__impl_all_1_lo (n : Nat) : LoopsOk (T := T) (Phi n 10) (slices_ContainsFunc_int_int__impl_all_1_Ls n) slices_ContainsFunc_int_int__impl_all_1_ann n slices_ContainsFunc_int_int__impl_all_1_code := loopsOk_all (cs := []) (by kernel_rfl) trivial
theorem slices_ContainsFunc_int_int__impl_all_1_ok (n : Nat) : EntOk Try.prog (ents n) (slices_ContainsFunc_int_int__impl_all_1_ent n) := by
  intro hs ar y hg h
  replace h : slices_ContainsFunc_int_int__impl_all_1_D n ar = some y := h
  unfold slices_ContainsFunc_int_int__impl_all_1_D at h
  split at h
  · obtain ⟨s0, qh0, h⟩ := obind_some h
    obtain ⟨f1c0, qh1, h⟩ := obind_some h
    obtain ⟨f1c1, qh2, h⟩ := obind_some h
    rw [argV_eq ok qh0, argP_eq qh1, argP_eq qh2] at hg ⊢
    cases (show [_] = [200] from natsEq_eq hg)
    exact call_of (phiE_nat _ _) hs ok mixed Try.func199 (c := slices_ContainsFunc_int_int__impl_all_1_code) (by kernel_rfl) (slices_ContainsFunc_int_int__impl_all_1_lo n) (by kernel_rfl) (by kernel_rfl) (by kernel_rfl) slices_ContainsFunc_int_int__impl_all_1_de ((slices_ContainsFunc_int_int__impl_all_1_tie n s0 f1c0 f1c1).trans h)
  · cases h
noncomputable def impl_all_code : Code := match Try.f159.body with | some c => c | none => .skip
def impl_all_ann : Ann := fun id => none
def impl_all_Ls (n : Nat) : Nat → Option (LSpec T) := fun id => none
theorem impl_all_tie (n : Nat) (l0 : List Int) (least1 : Int) (most2 : Int) : evF (T := T) (Phi n 11) (impl_all_Ls n) impl_all_ann n Try.f159 (sg 159) [vA T 24 l0, vA T 3 least1, vA T 3 most2] impl_all_dec = impl_all n l0 least1 most2 := by kernel_rfl
theorem impl_all_lo (n : Nat) : LoopsOk (T := T) (Phi n 11) (impl_all_Ls n) impl_all_ann n impl_all_code := loopsOk_all (cs := []) (by kernel_rfl) trivial
theorem impl_all_ok (n : Nat) : EntOk Try.prog (ents n) (impl_all_ent n) := by
  intro hs ar y hg h
  replace h : impl_all_D n ar = some y := h
  unfold impl_all_D at h
  replace h := ocons_some h
  obtain ⟨a0, r0, rfl, h⟩ := h
  replace h := ocons_some h
  obtain ⟨a1, r1, rfl, h⟩ := h
  replace h := ocons_some h
  obtain ⟨a2, r2, rfl, h⟩ := h
  replace h := onil_some h
  obtain ⟨rfl, h⟩ := h
  obtain ⟨l0, qh0, h⟩ := obind_some h
  obtain ⟨least1, qh1, h⟩ := obind_some h
  obtain ⟨most2, qh2, h⟩ := obind_some h
  rw [argV_eq ok qh0, argV_eq ok qh1, argV_eq ok qh2]
  exact call_of (phiE_nat _ _) hs ok mixed Try.func159 (c := impl_all_code) (by kernel_rfl) (impl_all_lo n) (by kernel_rfl) (by kernel_rfl) (by kernel_rfl) impl_all_de ((impl_all_tie n l0 least1 most2).trans h)
noncomputable def impl_SeaOk_code : Code := match Try.f65.body with | some c => c | none => .skip
def impl_SeaOk_4_sv : List Sv := [.one (.arr 179), .one (.int .i64), .one (.int .i64)]
def impl_SeaOk_4_so : List So := []
def impl_SeaOk_4_emb (c : List SClosed × Int) (x : Int) : EVs T impl_SeaOk_4_sv × EOs T impl_SeaOk_4_so := ((c.1, c.2, x, ()), ())
def impl_SeaOk_4_prj (y : EVs T impl_SeaOk_4_sv × EOs T impl_SeaOk_4_so) : (List SClosed × Int) × Int := ((y.1.1, y.1.2.1), (y.1.2.2.1))
def impl_SeaOk_4_b (n : Nat) {R : Type} (K : Ex → Sm.St T → Option R) (c : List SClosed × Int) (x : Int) (J : Int → Option R) : Option R :=
  impl_SeaOk_L4 n (K (.exit 0) (stOf (T := T) [] [] [] [] () ())) (fun (y0 : Bool) => K .ret (stOf (T := T) [2] [] [.one (.bool)] [] (y0, ()) ())) J c.1 c.2 x
def impl_SeaOk_4_sp (n : Nat) : LSpec T := mkSpec T ⟨[], [39, 40, 41], []⟩ impl_SeaOk_4_sv impl_SeaOk_4_so (List SClosed × Int) (Int) impl_SeaOk_4_emb impl_SeaOk_4_prj (impl_SeaOk_4_b n)
noncomputable def impl_SeaOk_4_c : Code := ((loopCodes impl_SeaOk_code)[0]?).getD .skip
def impl_SeaOk_ann : Ann := fun id => bif Nat.beq id 3000004 then some ⟨[], [], []⟩ else bif Nat.beq id 2000004 then some ⟨[], [2], []⟩ else none
def impl_SeaOk_Ls (n : Nat) : Nat → Option (LSpec T) := fun id => bif Nat.beq id 4 then some (impl_SeaOk_4_sp n) else none
theorem impl_SeaOk_4_le (n : Nat) : LoopEq (T := T) (Phi n 12) (impl_SeaOk_Ls n) impl_SeaOk_ann n impl_SeaOk_4_c (impl_SeaOk_4_sp n) := ⟨mkSpec_dec (fun y => rfl), fun c x => by kernel_rfl, fun K J c x => by kernel_rfl⟩
theorem impl_SeaOk_tie (n : Nat) (s0 : SSea) : evF (T := T) (Phi n 12) (impl_SeaOk_Ls n) impl_SeaOk_ann n Try.f65 (sg 65) [vA T 104 s0] impl_SeaOk_dec = impl_SeaOk n s0 := by kernel_rfl
theorem impl_SeaOk_lo (n : Nat) : LoopsOk (T := T) (Phi n 12) (impl_SeaOk_Ls n) impl_SeaOk_ann n impl_SeaOk_code := loopsOk_all (cs := [impl_SeaOk_4_c]) (by kernel_rfl) ⟨⟨_, by kernel_rfl, impl_SeaOk_4_le n⟩, trivial⟩
theorem impl_SeaOk_ok (n : Nat) : EntOk Try.prog (ents n) (impl_SeaOk_ent n) := by
  intro hs ar y hg h
  replace h : impl_SeaOk_D n ar = some y := h
  unfold impl_SeaOk_D at h
  replace h := ocons_some h
  obtain ⟨a0, r0, rfl, h⟩ := h
  replace h := onil_some h
  obtain ⟨rfl, h⟩ := h
  obtain ⟨s0, qh0, h⟩ := obind_some h
  rw [argV_eq ok qh0]
  exact call_of (phiE_nat _ _) hs ok mixed Try.func65 (c := impl_SeaOk_code) (by kernel_rfl) (impl_SeaOk_lo n) (by kernel_rfl) (by kernel_rfl) (by kernel_rfl) impl_SeaOk_de ((impl_SeaOk_tie n s0).trans h)
noncomputable def impl_Sea_place_code : Code := match Try.f157.body with | some c => c | none => .skip
def impl_Sea_place_ann : Ann := fun id => none
def impl_Sea_place_Ls (n : Nat) : Nat → Option (LSpec T) := fun id => none
theorem impl_Sea_place_tie (n : Nat) (s0 : SSea) (p1 : Int) : evF (T := T) (Phi n 13) (impl_Sea_place_Ls n) impl_Sea_place_ann n Try.f157 (sg 157) [vA T 104 s0, vA T 3 p1] impl_Sea_place_dec = impl_Sea_place n s0 p1 := by kernel_rfl
theorem impl_Sea_place_lo (n : Nat) : LoopsOk (T := T) (Phi n 13) (impl_Sea_place_Ls n) impl_Sea_place_ann n impl_Sea_place_code := loopsOk_all (cs := []) (by kernel_rfl) trivial
theorem impl_Sea_place_ok (n : Nat) : EntOk Try.prog (ents n) (impl_Sea_place_ent n) := by
  intro hs ar y hg h
  replace h : impl_Sea_place_D n ar = some y := h
  unfold impl_Sea_place_D at h
  replace h := ocons_some h
  obtain ⟨a0, r0, rfl, h⟩ := h
  replace h := ocons_some h
  obtain ⟨a1, r1, rfl, h⟩ := h
  replace h := onil_some h
  obtain ⟨rfl, h⟩ := h
  obtain ⟨s0, qh0, h⟩ := obind_some h
  obtain ⟨p1, qh1, h⟩ := obind_some h
  rw [argV_eq ok qh0, argV_eq ok qh1]
  exact call_of (phiE_nat _ _) hs ok mixed Try.func157 (c := impl_Sea_place_code) (by kernel_rfl) (impl_Sea_place_lo n) (by kernel_rfl) (by kernel_rfl) (by kernel_rfl) impl_Sea_place_de ((impl_Sea_place_tie n s0 p1).trans h)
noncomputable def impl_Sea_next_code : Code := match Try.f158.body with | some c => c | none => .skip
def impl_Sea_next_ann : Ann := fun id => none
def impl_Sea_next_Ls (n : Nat) : Nat → Option (LSpec T) := fun id => none
theorem impl_Sea_next_tie (n : Nat) (s0 : SSea) (p1 : Int) : evF (T := T) (Phi n 14) (impl_Sea_next_Ls n) impl_Sea_next_ann n Try.f158 (sg 158) [vA T 104 s0, vA T 3 p1] impl_Sea_next_dec = impl_Sea_next n s0 p1 := by kernel_rfl
theorem impl_Sea_next_lo (n : Nat) : LoopsOk (T := T) (Phi n 14) (impl_Sea_next_Ls n) impl_Sea_next_ann n impl_Sea_next_code := loopsOk_all (cs := []) (by kernel_rfl) trivial
theorem impl_Sea_next_ok (n : Nat) : EntOk Try.prog (ents n) (impl_Sea_next_ent n) := by
  intro hs ar y hg h
  replace h : impl_Sea_next_D n ar = some y := h
  unfold impl_Sea_next_D at h
  replace h := ocons_some h
  obtain ⟨a0, r0, rfl, h⟩ := h
  replace h := ocons_some h
  obtain ⟨a1, r1, rfl, h⟩ := h
  replace h := onil_some h
  obtain ⟨rfl, h⟩ := h
  obtain ⟨s0, qh0, h⟩ := obind_some h
  obtain ⟨p1, qh1, h⟩ := obind_some h
  rw [argV_eq ok qh0, argV_eq ok qh1]
  exact call_of (phiE_nat _ _) hs ok mixed Try.func158 (c := impl_Sea_next_code) (by kernel_rfl) (impl_Sea_next_lo n) (by kernel_rfl) (by kernel_rfl) (by kernel_rfl) impl_Sea_next_de ((impl_Sea_next_tie n s0 p1).trans h)
noncomputable def impl_Cheapest_code : Code := match Try.f64.body with | some c => c | none => .skip
def impl_Cheapest_5_sv : List Sv := [.one (.int .i64), .one (.ptr 16 0 0), .one (.own 3000000 3 false), .one (.int .i64), .one (.int .i64)]
def impl_Cheapest_5_so : List So := [.var [.int .i64, .int .i64, .arr 3, .arr 179], .arr 3 false]
def impl_Cheapest_5_emb (c : Int × Int × SSea) (x : Int × List Int) : EVs T impl_Cheapest_5_sv × EOs T impl_Cheapest_5_so := ((c.1, (), (), c.2.1, x.1, ()), ((c.2.2.Wide, c.2.2.High, c.2.2.Costs, c.2.2.Shut, ()), x.2, ()))
def impl_Cheapest_5_prj (y : EVs T impl_Cheapest_5_sv × EOs T impl_Cheapest_5_so) : (Int × Int × SSea) × (Int × List Int) := ((y.1.1, y.1.2.2.2.1, ((⟨y.2.1.1, y.2.1.2.1, y.2.1.2.2.1, y.2.1.2.2.2.1⟩ : SSea) : SSea)), (y.1.2.2.2.2.1, y.2.2.1))
def impl_Cheapest_5_b (n : Nat) {R : Type} (K : Ex → Sm.St T → Option R) (c : Int × Int × SSea) (x : Int × List Int) (J : (Int × List Int) → Option R) : Option R :=
  impl_Cheapest_L5 n (fun (y2 : List Int) => K (.exit 0) (stOf (T := T) [1, 2, 6] [16, 3000000] [.one (.int .i64), .one (.ptr 16 0 0), .one (.own 3000000 3 false)] [.var [.int .i64, .int .i64, .arr 3, .arr 179], .arr 3 false] (c.1, (), (), ()) ((c.2.2.Wide, c.2.2.High, c.2.2.Costs, c.2.2.Shut, ()), y2, ()))) (fun z0 z1 => J (z0, z1)) c.1 c.2.1 x.1 c.2.2 x.2
def impl_Cheapest_5_sp (n : Nat) : LSpec T := mkSpec T ⟨[((.reg 6), 3000000, 3)], [1, 2, 6, 28, 29], [16, 3000000]⟩ impl_Cheapest_5_sv impl_Cheapest_5_so (Int × Int × SSea) (Int × List Int) impl_Cheapest_5_emb impl_Cheapest_5_prj (impl_Cheapest_5_b n)
noncomputable def impl_Cheapest_5_c : Code := ((loopCodes impl_Cheapest_code)[0]?).getD .skip
def impl_Cheapest_13_sv : List Sv := [.one (.ptr 16 0 0), .one (.own 3000000 3 false), .one (.bool)]
def impl_Cheapest_13_so : List So := [.var [.int .i64, .int .i64, .arr 3, .arr 179], .arr 3 false]
def impl_Cheapest_13_emb (c : SSea) (x : Bool × List Int) : EVs T impl_Cheapest_13_sv × EOs T impl_Cheapest_13_so := (((), (), x.1, ()), ((c.Wide, c.High, c.Costs, c.Shut, ()), x.2, ()))
def impl_Cheapest_13_prj (y : EVs T impl_Cheapest_13_sv × EOs T impl_Cheapest_13_so) : SSea × (Bool × List Int) := ((((⟨y.2.1.1, y.2.1.2.1, y.2.1.2.2.1, y.2.1.2.2.2.1⟩ : SSea) : SSea)), (y.1.2.2.1, y.2.2.1))
def impl_Cheapest_13_b (n : Nat) {R : Type} (K : Ex → Sm.St T → Option R) (c : SSea) (x : Bool × List Int) (J : (Bool × List Int) → Option R) : Option R :=
  impl_Cheapest_L13 n (fun (y0 : List Int) => K (.exit 2) (stOf (T := T) [6] [3000000] [.one (.own 3000000 3 false)] [.arr 3 false] ((), ()) (y0, ()))) (fun z0 z1 => J (z0, z1)) x.1 c x.2
def impl_Cheapest_13_sp (n : Nat) : LSpec T := mkSpec T ⟨[((.reg 6), 3000000, 3)], [2, 6, 8], [16, 3000000]⟩ impl_Cheapest_13_sv impl_Cheapest_13_so (SSea) (Bool × List Int) impl_Cheapest_13_emb impl_Cheapest_13_prj (impl_Cheapest_13_b n)
noncomputable def impl_Cheapest_13_c : Code := ((loopCodes impl_Cheapest_code)[1]?).getD .skip
def impl_Cheapest_16_sv : List Sv := [.one (.ptr 16 0 0), .one (.own 3000001 3 false), .one (.bool), .one (.own 3000001 3 false), .one (.int .i64), .one (.int .i64)]
def impl_Cheapest_16_so : List So := [.var [.int .i64, .int .i64, .arr 3, .arr 179], .arr 3 false]
def impl_Cheapest_16_emb (c : Int × SSea) (x : Bool × Int × List Int) : EVs T impl_Cheapest_16_sv × EOs T impl_Cheapest_16_so := (((), (), x.1, (), c.1, x.2.1, ()), ((c.2.Wide, c.2.High, c.2.Costs, c.2.Shut, ()), x.2.2, ()))
def impl_Cheapest_16_prj (y : EVs T impl_Cheapest_16_sv × EOs T impl_Cheapest_16_so) : (Int × SSea) × (Bool × Int × List Int) := ((y.1.2.2.2.2.1, ((⟨y.2.1.1, y.2.1.2.1, y.2.1.2.2.1, y.2.1.2.2.2.1⟩ : SSea) : SSea)), (y.1.2.2.1, y.1.2.2.2.2.2.1, y.2.2.1))
def impl_Cheapest_16_b (n : Nat) {R : Type} (K : Ex → Sm.St T → Option R) (c : Int × SSea) (x : Bool × Int × List Int) (J : (Bool × Int × List Int) → Option R) : Option R :=
  impl_Cheapest_L16 n (fun (y0 : Bool) (y2 : List Int) => K (.exit 4) (stOf (T := T) [2, 6, 8] [16, 3000000] [.one (.ptr 16 0 0), .one (.own 3000000 3 false), .one (.bool)] [.var [.int .i64, .int .i64, .arr 3, .arr 179], .arr 3 false] ((), (), y0, ()) ((c.2.Wide, c.2.High, c.2.Costs, c.2.Shut, ()), y2, ()))) (fun z0 z1 z2 => J (z0, z1, z2)) x.1 c.1 x.2.1 c.2 x.2.2
def impl_Cheapest_16_sp (n : Nat) : LSpec T := mkSpec T ⟨[((.reg 6), 3000000, 3), ((.reg 47), 3000001, 3)], [2, 6, 8, 47, 48, 49], [16, 3000001]⟩ impl_Cheapest_16_sv impl_Cheapest_16_so (Int × SSea) (Bool × Int × List Int) impl_Cheapest_16_emb impl_Cheapest_16_prj (impl_Cheapest_16_b n)
noncomputable def impl_Cheapest_16_c : Code := ((loopCodes impl_Cheapest_code)[2]?).getD .skip
def impl_Cheapest_20_sv : List Sv := [.one (.ptr 16 0 0), .one (.own 3000001 3 false), .one (.bool), .one (.int .i64), .one (.own 3000001 3 false), .one (.int .i64), .one (.int .i64), .one (.own 3000002 3 false), .one (.int .i64), .one (.int .i64)]
def impl_Cheapest_20_so : List So := [.var [.int .i64, .int .i64, .arr 3, .arr 179], .arr 3 false, .arr 3 false]
def impl_Cheapest_20_emb (c : Int × Int × Int × Int × SSea × List Int) (x : Bool × Int × List Int) : EVs T impl_Cheapest_20_sv × EOs T impl_Cheapest_20_so := (((), (), x.1, c.1, (), c.2.1, c.2.2.1, (), c.2.2.2.1, x.2.1, ()), ((c.2.2.2.2.1.Wide, c.2.2.2.2.1.High, c.2.2.2.2.1.Costs, c.2.2.2.2.1.Shut, ()), x.2.2, c.2.2.2.2.2, ()))
def impl_Cheapest_20_prj (y : EVs T impl_Cheapest_20_sv × EOs T impl_Cheapest_20_so) : (Int × Int × Int × Int × SSea × List Int) × (Bool × Int × List Int) := ((y.1.2.2.2.1, y.1.2.2.2.2.2.1, y.1.2.2.2.2.2.2.1, y.1.2.2.2.2.2.2.2.2.1, ((⟨y.2.1.1, y.2.1.2.1, y.2.1.2.2.1, y.2.1.2.2.2.1⟩ : SSea) : SSea), y.2.2.2.1), (y.1.2.2.1, y.1.2.2.2.2.2.2.2.2.2.1, y.2.2.1))
def impl_Cheapest_20_b (n : Nat) {R : Type} (K : Ex → Sm.St T → Option R) (c : Int × Int × Int × Int × SSea × List Int) (x : Bool × Int × List Int) (J : (Bool × Int × List Int) → Option R) : Option R :=
  impl_Cheapest_L20 n (fun (y0 : Bool) (y4 : List Int) => K (.exit 6) (stOf (T := T) [2, 6, 8, 47, 48, 49] [16, 3000001] [.one (.ptr 16 0 0), .one (.own 3000001 3 false), .one (.bool), .one (.own 3000001 3 false), .one (.int .i64), .one (.int .i64)] [.var [.int .i64, .int .i64, .arr 3, .arr 179], .arr 3 false] ((), (), y0, (), c.2.1, c.2.2.1, ()) ((c.2.2.2.2.1.Wide, c.2.2.2.2.1.High, c.2.2.2.2.1.Costs, c.2.2.2.2.1.Shut, ()), y4, ()))) (fun z0 z1 z2 => J (z0, z1, z2)) x.1 c.1 c.2.1 c.2.2.1 c.2.2.2.1 x.2.1 c.2.2.2.2.1 x.2.2 c.2.2.2.2.2
def impl_Cheapest_20_sp (n : Nat) : LSpec T := mkSpec T ⟨[((.reg 6), 3000000, 3), ((.reg 47), 3000001, 3), ((.reg 58), 3000002, 3)], [2, 6, 8, 10, 47, 48, 49, 58, 59, 60], [16, 3000001, 3000002]⟩ impl_Cheapest_20_sv impl_Cheapest_20_so (Int × Int × Int × Int × SSea × List Int) (Bool × Int × List Int) impl_Cheapest_20_emb impl_Cheapest_20_prj (impl_Cheapest_20_b n)
noncomputable def impl_Cheapest_20_c : Code := ((loopCodes impl_Cheapest_code)[3]?).getD .skip
def impl_Cheapest_ann : Ann := fun id => bif Nat.beq id 3000005 then some ⟨[((.reg 6), 3000000, 3)], [1, 2, 6], [16, 3000000]⟩ else bif Nat.beq id 5000013 then some ⟨[((.reg 6), 3000000, 3)], [6], [3000000]⟩ else bif Nat.beq id 7000016 then some ⟨[((.reg 6), 3000000, 3)], [2, 6, 8], [16, 3000000]⟩ else bif Nat.beq id 9000020 then some ⟨[((.reg 6), 3000000, 3), ((.reg 47), 3000001, 3)], [2, 6, 8, 47, 48, 49], [16, 3000001]⟩ else none
def impl_Cheapest_Ls (n : Nat) : Nat → Option (LSpec T) := fun id => bif Nat.beq id 5 then some (impl_Cheapest_5_sp n) else bif Nat.beq id 13 then some (impl_Cheapest_13_sp n) else bif Nat.beq id 16 then some (impl_Cheapest_16_sp n) else bif Nat.beq id 20 then some (impl_Cheapest_20_sp n) else none
theorem impl_Cheapest_5_le (n : Nat) : LoopEq (T := T) (Phi n 15) (impl_Cheapest_Ls n) impl_Cheapest_ann n impl_Cheapest_5_c (impl_Cheapest_5_sp n) := ⟨mkSpec_dec (fun y => rfl), fun c x => by kernel_rfl, fun K J c x => by kernel_rfl⟩
theorem impl_Cheapest_13_le (n : Nat) : LoopEq (T := T) (Phi n 15) (impl_Cheapest_Ls n) impl_Cheapest_ann n impl_Cheapest_13_c (impl_Cheapest_13_sp n) := ⟨mkSpec_dec (fun y => rfl), fun c x => by kernel_rfl, fun K J c x => by kernel_rfl⟩
theorem impl_Cheapest_16_le (n : Nat) : LoopEq (T := T) (Phi n 15) (impl_Cheapest_Ls n) impl_Cheapest_ann n impl_Cheapest_16_c (impl_Cheapest_16_sp n) := ⟨mkSpec_dec (fun y => rfl), fun c x => by kernel_rfl, fun K J c x => by kernel_rfl⟩
theorem impl_Cheapest_20_le (n : Nat) : LoopEq (T := T) (Phi n 15) (impl_Cheapest_Ls n) impl_Cheapest_ann n impl_Cheapest_20_c (impl_Cheapest_20_sp n) := ⟨mkSpec_dec (fun y => rfl), fun c x => by kernel_rfl, fun K J c x => by kernel_rfl⟩
theorem impl_Cheapest_tie (n : Nat) (s0 : SSea) (from1 : Int) : evF (T := T) (Phi n 15) (impl_Cheapest_Ls n) impl_Cheapest_ann n Try.f64 (sg 64) [vA T 104 s0, vA T 3 from1] impl_Cheapest_dec = impl_Cheapest n s0 from1 := by kernel_rfl
theorem impl_Cheapest_lo (n : Nat) : LoopsOk (T := T) (Phi n 15) (impl_Cheapest_Ls n) impl_Cheapest_ann n impl_Cheapest_code := loopsOk_all (cs := [impl_Cheapest_5_c, impl_Cheapest_13_c, impl_Cheapest_16_c, impl_Cheapest_20_c]) (by kernel_rfl) ⟨⟨_, by kernel_rfl, impl_Cheapest_5_le n⟩, ⟨_, by kernel_rfl, impl_Cheapest_13_le n⟩, ⟨_, by kernel_rfl, impl_Cheapest_16_le n⟩, ⟨_, by kernel_rfl, impl_Cheapest_20_le n⟩, trivial⟩
theorem impl_Cheapest_ok (n : Nat) : EntOk Try.prog (ents n) (impl_Cheapest_ent n) := by
  intro hs ar y hg h
  replace h : impl_Cheapest_D n ar = some y := h
  unfold impl_Cheapest_D at h
  replace h := ocons_some h
  obtain ⟨a0, r0, rfl, h⟩ := h
  replace h := ocons_some h
  obtain ⟨a1, r1, rfl, h⟩ := h
  replace h := onil_some h
  obtain ⟨rfl, h⟩ := h
  obtain ⟨s0, qh0, h⟩ := obind_some h
  obtain ⟨from1, qh1, h⟩ := obind_some h
  rw [argV_eq ok qh0, argV_eq ok qh1]
  exact call_of (phiE_nat _ _) hs ok mixed Try.func64 (c := impl_Cheapest_code) (by kernel_rfl) (impl_Cheapest_lo n) (by kernel_rfl) (by kernel_rfl) (by kernel_rfl) impl_Cheapest_de ((impl_Cheapest_tie n s0 from1).trans h)
noncomputable def impl_Proves_code : Code := match Try.f66.body with | some c => c | none => .skip
def impl_Proves_4_sv : List Sv := [.one (.int .i64), .one (.arr 3), .one (.ptr 24 0 0), .one (.arr 3), .one (.int .i64), .one (.int .i64)]
def impl_Proves_4_so : List So := [.var [.int .i64, .int .i64, .arr 3, .arr 179]]
def impl_Proves_4_emb (c : Int × List Int × List Int × Int × SSea) (x : Int) : EVs T impl_Proves_4_sv × EOs T impl_Proves_4_so := ((c.1, c.2.1, (), c.2.2.1, c.2.2.2.1, x, ()), ((c.2.2.2.2.Wide, c.2.2.2.2.High, c.2.2.2.2.Costs, c.2.2.2.2.Shut, ()), ()))
def impl_Proves_4_prj (y : EVs T impl_Proves_4_sv × EOs T impl_Proves_4_so) : (Int × List Int × List Int × Int × SSea) × Int := ((y.1.1, y.1.2.1, y.1.2.2.2.1, y.1.2.2.2.2.1, ((⟨y.2.1.1, y.2.1.2.1, y.2.1.2.2.1, y.2.1.2.2.2.1⟩ : SSea) : SSea)), (y.1.2.2.2.2.2.1))
def impl_Proves_4_b (n : Nat) {R : Type} (K : Ex → Sm.St T → Option R) (c : Int × List Int × List Int × Int × SSea) (x : Int) (J : Int → Option R) : Option R :=
  impl_Proves_L4 n (K (.exit 0) (stOf (T := T) [] [] [] [] () ())) (fun (y0 : Bool) => K .ret (stOf (T := T) [6] [] [.one (.bool)] [] (y0, ()) ())) J c.1 c.2.1 c.2.2.1 c.2.2.2.1 x c.2.2.2.2
def impl_Proves_4_sp (n : Nat) : LSpec T := mkSpec T ⟨[], [1, 2, 3, 45, 46, 47], [24]⟩ impl_Proves_4_sv impl_Proves_4_so (Int × List Int × List Int × Int × SSea) (Int) impl_Proves_4_emb impl_Proves_4_prj (impl_Proves_4_b n)
noncomputable def impl_Proves_4_c : Code := ((loopCodes impl_Proves_code)[0]?).getD .skip
def impl_Proves_11_sv : List Sv := [.one (.int .i64), .one (.arr 3), .one (.ptr 24 0 0), .one (.int .i64), .one (.int .i64), .one (.bool), .one (.arr 3), .one (.int .i64), .one (.int .i64), .one (.own 3000000 3 false), .one (.int .i64), .one (.int .i64)]
def impl_Proves_11_so : List So := [.var [.int .i64, .int .i64, .arr 3, .arr 179], .arr 3 false]
def impl_Proves_11_emb (c : Int × List Int × Int × Int × List Int × Int × Int × Int × SSea × List Int) (x : Bool × Int) : EVs T impl_Proves_11_sv × EOs T impl_Proves_11_so := ((c.1, c.2.1, (), c.2.2.1, c.2.2.2.1, x.1, c.2.2.2.2.1, c.2.2.2.2.2.1, c.2.2.2.2.2.2.1, (), c.2.2.2.2.2.2.2.1, x.2, ()), ((c.2.2.2.2.2.2.2.2.1.Wide, c.2.2.2.2.2.2.2.2.1.High, c.2.2.2.2.2.2.2.2.1.Costs, c.2.2.2.2.2.2.2.2.1.Shut, ()), c.2.2.2.2.2.2.2.2.2, ()))
def impl_Proves_11_prj (y : EVs T impl_Proves_11_sv × EOs T impl_Proves_11_so) : (Int × List Int × Int × Int × List Int × Int × Int × Int × SSea × List Int) × (Bool × Int) := ((y.1.1, y.1.2.1, y.1.2.2.2.1, y.1.2.2.2.2.1, y.1.2.2.2.2.2.2.1, y.1.2.2.2.2.2.2.2.1, y.1.2.2.2.2.2.2.2.2.1, y.1.2.2.2.2.2.2.2.2.2.2.1, ((⟨y.2.1.1, y.2.1.2.1, y.2.1.2.2.1, y.2.1.2.2.2.1⟩ : SSea) : SSea), y.2.2.1), (y.1.2.2.2.2.2.1, y.1.2.2.2.2.2.2.2.2.2.2.2.1))
def impl_Proves_11_b (n : Nat) {R : Type} (K : Ex → Sm.St T → Option R) (c : Int × List Int × Int × Int × List Int × Int × Int × Int × SSea × List Int) (x : Bool × Int) (J : (Bool × Int) → Option R) : Option R :=
  impl_Proves_L11 n (fun (y2 : Bool) => K (.exit 2) (stOf (T := T) [1, 2, 3, 9, 45, 46, 47] [24] [.one (.int .i64), .one (.arr 3), .one (.ptr 24 0 0), .one (.bool), .one (.arr 3), .one (.int .i64), .one (.int .i64)] [.var [.int .i64, .int .i64, .arr 3, .arr 179]] (c.1, c.2.1, (), y2, c.2.2.2.2.1, c.2.2.2.2.2.1, c.2.2.2.2.2.2.1, ()) ((c.2.2.2.2.2.2.2.2.1.Wide, c.2.2.2.2.2.2.2.2.1.High, c.2.2.2.2.2.2.2.2.1.Costs, c.2.2.2.2.2.2.2.2.1.Shut, ()), ()))) (fun (y0 : Bool) => K .ret (stOf (T := T) [6] [] [.one (.bool)] [] (y0, ()) ())) (fun z0 z1 => J (z0, z1)) c.1 c.2.1 c.2.2.1 c.2.2.2.1 x.1 c.2.2.2.2.1 c.2.2.2.2.2.1 c.2.2.2.2.2.2.1 c.2.2.2.2.2.2.2.1 x.2 c.2.2.2.2.2.2.2.2.1 c.2.2.2.2.2.2.2.2.2
def impl_Proves_11_sp (n : Nat) : LSpec T := mkSpec T ⟨[((.reg 73), 3000000, 3)], [1, 2, 3, 7, 8, 9, 45, 46, 47, 73, 74, 75], [24, 3000000]⟩ impl_Proves_11_sv impl_Proves_11_so (Int × List Int × Int × Int × List Int × Int × Int × Int × SSea × List Int) (Bool × Int) impl_Proves_11_emb impl_Proves_11_prj (impl_Proves_11_b n)
noncomputable def impl_Proves_11_c : Code := ((loopCodes impl_Proves_code)[1]?).getD .skip
def impl_Proves_ann : Ann := fun id => bif Nat.beq id 3000004 then some ⟨[], [], []⟩ else bif Nat.beq id 2000004 then some ⟨[], [6], []⟩ else bif Nat.beq id 5000011 then some ⟨[], [1, 2, 3, 9, 45, 46, 47], [24]⟩ else bif Nat.beq id 2000011 then some ⟨[], [6], []⟩ else none
def impl_Proves_Ls (n : Nat) : Nat → Option (LSpec T) := fun id => bif Nat.beq id 4 then some (impl_Proves_4_sp n) else bif Nat.beq id 11 then some (impl_Proves_11_sp n) else none
theorem impl_Proves_4_le (n : Nat) : LoopEq (T := T) (Phi n 16) (impl_Proves_Ls n) impl_Proves_ann n impl_Proves_4_c (impl_Proves_4_sp n) := ⟨mkSpec_dec (fun y => rfl), fun c x => by kernel_rfl, fun K J c x => by kernel_rfl⟩
theorem impl_Proves_11_le (n : Nat) : LoopEq (T := T) (Phi n 16) (impl_Proves_Ls n) impl_Proves_ann n impl_Proves_11_c (impl_Proves_11_sp n) := ⟨mkSpec_dec (fun y => rfl), fun c x => by kernel_rfl, fun K J c x => by kernel_rfl⟩
theorem impl_Proves_tie (n : Nat) (s0 : SSea) (from1 : Int) (costs2 : List Int) : evF (T := T) (Phi n 16) (impl_Proves_Ls n) impl_Proves_ann n Try.f66 (sg 66) [vA T 104 s0, vA T 3 from1, vA T 24 costs2] impl_Proves_dec = impl_Proves n s0 from1 costs2 := by kernel_rfl
theorem impl_Proves_lo (n : Nat) : LoopsOk (T := T) (Phi n 16) (impl_Proves_Ls n) impl_Proves_ann n impl_Proves_code := loopsOk_all (cs := [impl_Proves_4_c, impl_Proves_11_c]) (by kernel_rfl) ⟨⟨_, by kernel_rfl, impl_Proves_4_le n⟩, ⟨_, by kernel_rfl, impl_Proves_11_le n⟩, trivial⟩
theorem impl_Proves_ok (n : Nat) : EntOk Try.prog (ents n) (impl_Proves_ent n) := by
  intro hs ar y hg h
  replace h : impl_Proves_D n ar = some y := h
  unfold impl_Proves_D at h
  replace h := ocons_some h
  obtain ⟨a0, r0, rfl, h⟩ := h
  replace h := ocons_some h
  obtain ⟨a1, r1, rfl, h⟩ := h
  replace h := ocons_some h
  obtain ⟨a2, r2, rfl, h⟩ := h
  replace h := onil_some h
  obtain ⟨rfl, h⟩ := h
  obtain ⟨s0, qh0, h⟩ := obind_some h
  obtain ⟨from1, qh1, h⟩ := obind_some h
  obtain ⟨costs2, qh2, h⟩ := obind_some h
  rw [argV_eq ok qh0, argV_eq ok qh1, argV_eq ok qh2]
  exact call_of (phiE_nat _ _) hs ok mixed Try.func66 (c := impl_Proves_code) (by kernel_rfl) (impl_Proves_lo n) (by kernel_rfl) (by kernel_rfl) (by kernel_rfl) impl_Proves_de ((impl_Proves_tie n s0 from1 costs2).trans h)
noncomputable def laws_at_code : Code := match Try.f23.body with | some c => c | none => .skip
def laws_at_ann : Ann := fun id => none
def laws_at_Ls (n : Nat) : Nat → Option (LSpec T) := fun id => none
theorem laws_at_tie (n : Nat) (code0 : List Int) (i1 : Int) : evF (T := T) (Phi n 17) (laws_at_Ls n) laws_at_ann n Try.f23 (sg 23) [vA T 34 code0, vA T 3 i1] laws_at_dec = laws_at n code0 i1 := by kernel_rfl
theorem laws_at_lo (n : Nat) : LoopsOk (T := T) (Phi n 17) (laws_at_Ls n) laws_at_ann n laws_at_code := loopsOk_all (cs := []) (by kernel_rfl) trivial
theorem laws_at_ok (n : Nat) : EntOk Try.prog (ents n) (laws_at_ent n) := by
  intro hs ar y hg h
  replace h : laws_at_D n ar = some y := h
  unfold laws_at_D at h
  replace h := ocons_some h
  obtain ⟨a0, r0, rfl, h⟩ := h
  replace h := ocons_some h
  obtain ⟨a1, r1, rfl, h⟩ := h
  replace h := onil_some h
  obtain ⟨rfl, h⟩ := h
  obtain ⟨code0, qh0, h⟩ := obind_some h
  obtain ⟨i1, qh1, h⟩ := obind_some h
  rw [argV_eq ok qh0, argV_eq ok qh1]
  exact call_of (phiE_nat _ _) hs ok mixed Try.func23 (c := laws_at_code) (by kernel_rfl) (laws_at_lo n) (by kernel_rfl) (by kernel_rfl) (by kernel_rfl) laws_at_de ((laws_at_tie n code0 i1).trans h)
noncomputable def impl_own_int_code : Code := match Try.f79.body with | some c => c | none => .skip
def impl_own_int_ann : Ann := fun id => none
def impl_own_int_Ls (n : Nat) : Nat → Option (LSpec T) := fun id => none
theorem impl_own_int_tie (n : Nat) (l0 : List Int) : evF (T := T) (Phi n 18) (impl_own_int_Ls n) impl_own_int_ann n Try.f79 (sg 79) [vA T 24 l0] impl_own_int_dec = impl_own_int n l0 := by kernel_rfl
theorem impl_own_int_lo (n : Nat) : LoopsOk (T := T) (Phi n 18) (impl_own_int_Ls n) impl_own_int_ann n impl_own_int_code := loopsOk_all (cs := []) (by kernel_rfl) trivial
theorem impl_own_int_ok (n : Nat) : EntOk Try.prog (ents n) (impl_own_int_ent n) := by
  intro hs ar y hg h
  replace h : impl_own_int_D n ar = some y := h
  unfold impl_own_int_D at h
  replace h := ocons_some h
  obtain ⟨a0, r0, rfl, h⟩ := h
  replace h := onil_some h
  obtain ⟨rfl, h⟩ := h
  obtain ⟨l0, qh0, h⟩ := obind_some h
  rw [argV_eq ok qh0]
  exact call_of (phiE_nat _ _) hs ok mixed Try.func79 (c := impl_own_int_code) (by kernel_rfl) (impl_own_int_lo n) (by kernel_rfl) (by kernel_rfl) (by kernel_rfl) impl_own_int_de ((impl_own_int_tie n l0).trans h)
noncomputable def impl_WayOf_code : Code := match Try.f67.body with | some c => c | none => .skip
def impl_WayOf_6_sv : List Sv := [.one (.int .i64), .one (.ptr 24 0 0), .one (.own 3000000 3 false), .one (.own 3000001 3 false), .one (.int .i64)]
def impl_WayOf_6_so : List So := [.var [.int .i64, .int .i64, .arr 3, .arr 179], .arr 3 false, .arr 3 false]
def impl_WayOf_6_emb (c : Int × SSea × List Int) (x : Int × List Int) : EVs T impl_WayOf_6_sv × EOs T impl_WayOf_6_so := ((c.1, (), (), (), x.1, ()), ((c.2.1.Wide, c.2.1.High, c.2.1.Costs, c.2.1.Shut, ()), c.2.2, x.2, ()))
def impl_WayOf_6_prj (y : EVs T impl_WayOf_6_sv × EOs T impl_WayOf_6_so) : (Int × SSea × List Int) × (Int × List Int) := ((y.1.1, ((⟨y.2.1.1, y.2.1.2.1, y.2.1.2.2.1, y.2.1.2.2.2.1⟩ : SSea) : SSea), y.2.2.1), (y.1.2.2.2.2.1, y.2.2.2.1))
def impl_WayOf_6_b (n : Nat) {R : Type} (K : Ex → Sm.St T → Option R) (c : Int × SSea × List Int) (x : Int × List Int) (J : (Int × List Int) → Option R) : Option R :=
  impl_WayOf_L6 n (fun (y0 : List Int) => K (.exit 0) (stOf (T := T) [10] [3000001] [.one (.own 3000001 3 false)] [.arr 3 false] ((), ()) (y0, ()))) (fun z0 z1 => J (z0, z1)) c.1 x.1 c.2.1 c.2.2 x.2
def impl_WayOf_6_sp (n : Nat) : LSpec T := mkSpec T ⟨[((.reg 8), 3000000, 3), ((.reg 10), 3000001, 3)], [1, 3, 8, 10, 11], [24, 3000000, 3000001]⟩ impl_WayOf_6_sv impl_WayOf_6_so (Int × SSea × List Int) (Int × List Int) impl_WayOf_6_emb impl_WayOf_6_prj (impl_WayOf_6_b n)
noncomputable def impl_WayOf_6_c : Code := ((loopCodes impl_WayOf_code)[0]?).getD .skip
def impl_WayOf_8_sv : List Sv := [.one (.int .i64), .one (.ptr 24 0 0), .one (.own 3000000 3 false), .one (.own 3000001 3 false), .one (.int .i64), .one (.own 3000002 3 false), .one (.int .i64), .one (.int .i64)]
def impl_WayOf_8_so : List So := [.var [.int .i64, .int .i64, .arr 3, .arr 179], .arr 3 false, .arr 3 false, .arr 3 false]
def impl_WayOf_8_emb (c : Int × Int × Int × SSea × List Int × List Int × List Int) (x : Int) : EVs T impl_WayOf_8_sv × EOs T impl_WayOf_8_so := ((c.1, (), (), (), c.2.1, (), c.2.2.1, x, ()), ((c.2.2.2.1.Wide, c.2.2.2.1.High, c.2.2.2.1.Costs, c.2.2.2.1.Shut, ()), c.2.2.2.2.1, c.2.2.2.2.2.1, c.2.2.2.2.2.2, ()))
def impl_WayOf_8_prj (y : EVs T impl_WayOf_8_sv × EOs T impl_WayOf_8_so) : (Int × Int × Int × SSea × List Int × List Int × List Int) × Int := ((y.1.1, y.1.2.2.2.2.1, y.1.2.2.2.2.2.2.1, ((⟨y.2.1.1, y.2.1.2.1, y.2.1.2.2.1, y.2.1.2.2.2.1⟩ : SSea) : SSea), y.2.2.1, y.2.2.2.1, y.2.2.2.2.1), (y.1.2.2.2.2.2.2.2.1))
def impl_WayOf_8_b (n : Nat) {R : Type} (K : Ex → Sm.St T → Option R) (c : Int × Int × Int × SSea × List Int × List Int × List Int) (x : Int) (J : Int → Option R) : Option R :=
  impl_WayOf_L8 n (fun (y1 : Int) => K (.exit 2) (stOf (T := T) [1, 3, 8, 10, 11] [24, 3000000, 3000001] [.one (.int .i64), .one (.ptr 24 0 0), .one (.own 3000000 3 false), .one (.own 3000001 3 false), .one (.int .i64)] [.var [.int .i64, .int .i64, .arr 3, .arr 179], .arr 3 false, .arr 3 false] (c.1, (), (), (), y1, ()) ((c.2.2.2.1.Wide, c.2.2.2.1.High, c.2.2.2.1.Costs, c.2.2.2.1.Shut, ()), c.2.2.2.2.1, c.2.2.2.2.2.1, ()))) J c.1 c.2.1 c.2.2.1 x c.2.2.2.1 c.2.2.2.2.1 c.2.2.2.2.2.1 c.2.2.2.2.2.2
def impl_WayOf_8_sp (n : Nat) : LSpec T := mkSpec T ⟨[((.reg 8), 3000000, 3), ((.reg 10), 3000001, 3), ((.reg 45), 3000002, 3)], [1, 3, 8, 10, 11, 45, 46, 47], [24, 3000000, 3000001, 3000002]⟩ impl_WayOf_8_sv impl_WayOf_8_so (Int × Int × Int × SSea × List Int × List Int × List Int) (Int) impl_WayOf_8_emb impl_WayOf_8_prj (impl_WayOf_8_b n)
noncomputable def impl_WayOf_8_c : Code := ((loopCodes impl_WayOf_code)[1]?).getD .skip
def impl_WayOf_15_sv : List Sv := [.one (.own 3000001 3 false), .one (.int .i64), .one (.int .i64)]
def impl_WayOf_15_so : List So := [.arr 3 false]
def impl_WayOf_15_emb (c : Unit) (x : Int × Int × List Int) : EVs T impl_WayOf_15_sv × EOs T impl_WayOf_15_so := (((), x.1, x.2.1, ()), (x.2.2, ()))
def impl_WayOf_15_prj (y : EVs T impl_WayOf_15_sv × EOs T impl_WayOf_15_so) : Unit × (Int × Int × List Int) := ((), (y.1.2.1, y.1.2.2.1, y.2.1))
def impl_WayOf_15_b (n : Nat) {R : Type} (K : Ex → Sm.St T → Option R) (c : Unit) (x : Int × Int × List Int) (J : (Int × Int × List Int) → Option R) : Option R :=
  impl_WayOf_L15 n (fun (y0 : List Int) => K (.exit 4) (stOf (T := T) [10] [3000001] [.one (.own 3000001 3 false)] [.arr 3 false] ((), ()) (y0, ()))) (fun z0 z1 z2 => J (z0, z1, z2)) x.1 x.2.1 x.2.2
def impl_WayOf_15_sp (n : Nat) : LSpec T := mkSpec T ⟨[((.reg 10), 3000001, 3)], [10, 14, 15], [3000001]⟩ impl_WayOf_15_sv impl_WayOf_15_so (Unit) (Int × Int × List Int) impl_WayOf_15_emb impl_WayOf_15_prj (impl_WayOf_15_b n)
noncomputable def impl_WayOf_15_c : Code := ((loopCodes impl_WayOf_code)[2]?).getD .skip
def impl_WayOf_ann : Ann := fun id => bif Nat.beq id 3000006 then some ⟨[((.reg 10), 3000001, 3)], [10], [3000001]⟩ else bif Nat.beq id 5000008 then some ⟨[((.reg 8), 3000000, 3), ((.reg 10), 3000001, 3)], [1, 3, 8, 10, 11], [24, 3000000, 3000001]⟩ else bif Nat.beq id 7000015 then some ⟨[((.reg 10), 3000001, 3)], [10], [3000001]⟩ else none
def impl_WayOf_Ls (n : Nat) : Nat → Option (LSpec T) := fun id => bif Nat.beq id 6 then some (impl_WayOf_6_sp n) else bif Nat.beq id 8 then some (impl_WayOf_8_sp n) else bif Nat.beq id 15 then some (impl_WayOf_15_sp n) else none
theorem impl_WayOf_6_le (n : Nat) : LoopEq (T := T) (Phi n 19) (impl_WayOf_Ls n) impl_WayOf_ann n impl_WayOf_6_c (impl_WayOf_6_sp n) := ⟨mkSpec_dec (fun y => rfl), fun c x => by kernel_rfl, fun K J c x => by kernel_rfl⟩
theorem impl_WayOf_8_le (n : Nat) : LoopEq (T := T) (Phi n 19) (impl_WayOf_Ls n) impl_WayOf_ann n impl_WayOf_8_c (impl_WayOf_8_sp n) := ⟨mkSpec_dec (fun y => rfl), fun c x => by kernel_rfl, fun K J c x => by kernel_rfl⟩
theorem impl_WayOf_15_le (n : Nat) : LoopEq (T := T) (Phi n 19) (impl_WayOf_Ls n) impl_WayOf_ann n impl_WayOf_15_c (impl_WayOf_15_sp n) := ⟨mkSpec_dec (fun y => rfl), fun c x => by kernel_rfl, fun K J c x => by kernel_rfl⟩
theorem impl_WayOf_tie (n : Nat) (s0 : SSea) (from1 : Int) (to2 : Int) : evF (T := T) (Phi n 19) (impl_WayOf_Ls n) impl_WayOf_ann n Try.f67 (sg 67) [vA T 104 s0, vA T 3 from1, vA T 3 to2] impl_WayOf_dec = impl_WayOf n s0 from1 to2 := by kernel_rfl
theorem impl_WayOf_lo (n : Nat) : LoopsOk (T := T) (Phi n 19) (impl_WayOf_Ls n) impl_WayOf_ann n impl_WayOf_code := loopsOk_all (cs := [impl_WayOf_6_c, impl_WayOf_8_c, impl_WayOf_15_c]) (by kernel_rfl) ⟨⟨_, by kernel_rfl, impl_WayOf_6_le n⟩, ⟨_, by kernel_rfl, impl_WayOf_8_le n⟩, ⟨_, by kernel_rfl, impl_WayOf_15_le n⟩, trivial⟩
theorem impl_WayOf_ok (n : Nat) : EntOk Try.prog (ents n) (impl_WayOf_ent n) := by
  intro hs ar y hg h
  replace h : impl_WayOf_D n ar = some y := h
  unfold impl_WayOf_D at h
  replace h := ocons_some h
  obtain ⟨a0, r0, rfl, h⟩ := h
  replace h := ocons_some h
  obtain ⟨a1, r1, rfl, h⟩ := h
  replace h := ocons_some h
  obtain ⟨a2, r2, rfl, h⟩ := h
  replace h := onil_some h
  obtain ⟨rfl, h⟩ := h
  obtain ⟨s0, qh0, h⟩ := obind_some h
  obtain ⟨from1, qh1, h⟩ := obind_some h
  obtain ⟨to2, qh2, h⟩ := obind_some h
  rw [argV_eq ok qh0, argV_eq ok qh1, argV_eq ok qh2]
  exact call_of (phiE_nat _ _) hs ok mixed Try.func67 (c := impl_WayOf_code) (by kernel_rfl) (impl_WayOf_lo n) (by kernel_rfl) (by kernel_rfl) (by kernel_rfl) impl_WayOf_de ((impl_WayOf_tie n s0 from1 to2).trans h)
noncomputable def impl_WayCost_code : Code := match Try.f68.body with | some c => c | none => .skip
def impl_WayCost_5_sv : List Sv := [.one (.arr 3), .one (.ptr 16 0 0), .one (.int .i64), .one (.arr 3), .one (.int .i64), .one (.int .i64)]
def impl_WayCost_5_so : List So := [.var [.int .i64, .int .i64, .arr 3, .arr 179]]
def impl_WayCost_5_emb (c : List Int × List Int × Int × SSea) (x : Int × Int) : EVs T impl_WayCost_5_sv × EOs T impl_WayCost_5_so := ((c.1, (), x.1, c.2.1, c.2.2.1, x.2, ()), ((c.2.2.2.Wide, c.2.2.2.High, c.2.2.2.Costs, c.2.2.2.Shut, ()), ()))
def impl_WayCost_5_prj (y : EVs T impl_WayCost_5_sv × EOs T impl_WayCost_5_so) : (List Int × List Int × Int × SSea) × (Int × Int) := ((y.1.1, y.1.2.2.2.1, y.1.2.2.2.2.1, ((⟨y.2.1.1, y.2.1.2.1, y.2.1.2.2.1, y.2.1.2.2.2.1⟩ : SSea) : SSea)), (y.1.2.2.1, y.1.2.2.2.2.2.1))
def impl_WayCost_5_b (n : Nat) {R : Type} (K : Ex → Sm.St T → Option R) (c : List Int × List Int × Int × SSea) (x : Int × Int) (J : (Int × Int) → Option R) : Option R :=
  impl_WayCost_L5 n (fun (y0 : Int) => K (.exit 0) (stOf (T := T) [6] [] [.one (.int .i64)] [] (y0, ()) ())) (fun (y0 : Int) (y1 : Bool) => K .ret (stOf (T := T) [4, 5] [] [.one (.int .i64), .one (.bool)] [] (y0, y1, ()) ())) (fun z0 z1 => J (z0, z1)) c.1 x.1 c.2.1 c.2.2.1 x.2 c.2.2.2
def impl_WayCost_5_sp (n : Nat) : LSpec T := mkSpec T ⟨[], [1, 2, 6, 21, 22, 23], [16]⟩ impl_WayCost_5_sv impl_WayCost_5_so (List Int × List Int × Int × SSea) (Int × Int) impl_WayCost_5_emb impl_WayCost_5_prj (impl_WayCost_5_b n)
noncomputable def impl_WayCost_5_c : Code := ((loopCodes impl_WayCost_code)[0]?).getD .skip
def impl_WayCost_12_sv : List Sv := [.one (.arr 3), .one (.ptr 16 0 0), .one (.int .i64), .one (.int .i64), .one (.bool), .one (.arr 3), .one (.int .i64), .one (.int .i64), .one (.own 3000000 3 false), .one (.int .i64), .one (.int .i64)]
def impl_WayCost_12_so : List So := [.var [.int .i64, .int .i64, .arr 3, .arr 179], .arr 3 false]
def impl_WayCost_12_emb (c : List Int × Int × Int × List Int × Int × Int × Int × SSea × List Int) (x : Bool × Int) : EVs T impl_WayCost_12_sv × EOs T impl_WayCost_12_so := ((c.1, (), c.2.1, c.2.2.1, x.1, c.2.2.2.1, c.2.2.2.2.1, c.2.2.2.2.2.1, (), c.2.2.2.2.2.2.1, x.2, ()), ((c.2.2.2.2.2.2.2.1.Wide, c.2.2.2.2.2.2.2.1.High, c.2.2.2.2.2.2.2.1.Costs, c.2.2.2.2.2.2.2.1.Shut, ()), c.2.2.2.2.2.2.2.2, ()))
def impl_WayCost_12_prj (y : EVs T impl_WayCost_12_sv × EOs T impl_WayCost_12_so) : (List Int × Int × Int × List Int × Int × Int × Int × SSea × List Int) × (Bool × Int) := ((y.1.1, y.1.2.2.1, y.1.2.2.2.1, y.1.2.2.2.2.2.1, y.1.2.2.2.2.2.2.1, y.1.2.2.2.2.2.2.2.1, y.1.2.2.2.2.2.2.2.2.2.1, ((⟨y.2.1.1, y.2.1.2.1, y.2.1.2.2.1, y.2.1.2.2.2.1⟩ : SSea) : SSea), y.2.2.1), (y.1.2.2.2.2.1, y.1.2.2.2.2.2.2.2.2.2.2.1))
def impl_WayCost_12_b (n : Nat) {R : Type} (K : Ex → Sm.St T → Option R) (c : List Int × Int × Int × List Int × Int × Int × Int × SSea × List Int) (x : Bool × Int) (J : (Bool × Int) → Option R) : Option R :=
  impl_WayCost_L12 n (fun (y3 : Bool) => K (.exit 2) (stOf (T := T) [1, 2, 6, 8, 9, 21, 22, 23] [16] [.one (.arr 3), .one (.ptr 16 0 0), .one (.int .i64), .one (.int .i64), .one (.bool), .one (.arr 3), .one (.int .i64), .one (.int .i64)] [.var [.int .i64, .int .i64, .arr 3, .arr 179]] (c.1, (), c.2.1, c.2.2.1, y3, c.2.2.2.1, c.2.2.2.2.1, c.2.2.2.2.2.1, ()) ((c.2.2.2.2.2.2.2.1.Wide, c.2.2.2.2.2.2.2.1.High, c.2.2.2.2.2.2.2.1.Costs, c.2.2.2.2.2.2.2.1.Shut, ()), ()))) (fun z0 z1 => J (z0, z1)) c.1 c.2.1 c.2.2.1 x.1 c.2.2.2.1 c.2.2.2.2.1 c.2.2.2.2.2.1 c.2.2.2.2.2.2.1 x.2 c.2.2.2.2.2.2.2.1 c.2.2.2.2.2.2.2.2
def impl_WayCost_12_sp (n : Nat) : LSpec T := mkSpec T ⟨[((.reg 48), 3000000, 3)], [1, 2, 6, 8, 9, 21, 22, 23, 48, 49, 50], [16, 3000000]⟩ impl_WayCost_12_sv impl_WayCost_12_so (List Int × Int × Int × List Int × Int × Int × Int × SSea × List Int) (Bool × Int) impl_WayCost_12_emb impl_WayCost_12_prj (impl_WayCost_12_b n)
noncomputable def impl_WayCost_12_c : Code := ((loopCodes impl_WayCost_code)[1]?).getD .skip
def impl_WayCost_ann : Ann := fun id => bif Nat.beq id 3000005 then some ⟨[], [6], []⟩ else bif Nat.beq id 2000005 then some ⟨[], [4, 5], []⟩ else bif Nat.beq id 5000012 then some ⟨[], [1, 2, 6, 8, 9, 21, 22, 23], [16]⟩ else none
def impl_WayCost_Ls (n : Nat) : Nat → Option (LSpec T) := fun id => bif Nat.beq id 5 then some (impl_WayCost_5_sp n) else bif Nat.beq id 12 then some (impl_WayCost_12_sp n) else none
theorem impl_WayCost_5_le (n : Nat) : LoopEq (T := T) (Phi n 20) (impl_WayCost_Ls n) impl_WayCost_ann n impl_WayCost_5_c (impl_WayCost_5_sp n) := ⟨mkSpec_dec (fun y => rfl), fun c x => by kernel_rfl, fun K J c x => by kernel_rfl⟩
theorem impl_WayCost_12_le (n : Nat) : LoopEq (T := T) (Phi n 20) (impl_WayCost_Ls n) impl_WayCost_ann n impl_WayCost_12_c (impl_WayCost_12_sp n) := ⟨mkSpec_dec (fun y => rfl), fun c x => by kernel_rfl, fun K J c x => by kernel_rfl⟩
theorem impl_WayCost_tie (n : Nat) (s0 : SSea) (way1 : List Int) : evF (T := T) (Phi n 20) (impl_WayCost_Ls n) impl_WayCost_ann n Try.f68 (sg 68) [vA T 104 s0, vA T 24 way1] impl_WayCost_dec = impl_WayCost n s0 way1 := by kernel_rfl
theorem impl_WayCost_lo (n : Nat) : LoopsOk (T := T) (Phi n 20) (impl_WayCost_Ls n) impl_WayCost_ann n impl_WayCost_code := loopsOk_all (cs := [impl_WayCost_5_c, impl_WayCost_12_c]) (by kernel_rfl) ⟨⟨_, by kernel_rfl, impl_WayCost_5_le n⟩, ⟨_, by kernel_rfl, impl_WayCost_12_le n⟩, trivial⟩
theorem impl_WayCost_ok (n : Nat) : EntOk Try.prog (ents n) (impl_WayCost_ent n) := by
  intro hs ar y hg h
  replace h : impl_WayCost_D n ar = some y := h
  unfold impl_WayCost_D at h
  replace h := ocons_some h
  obtain ⟨a0, r0, rfl, h⟩ := h
  replace h := ocons_some h
  obtain ⟨a1, r1, rfl, h⟩ := h
  replace h := onil_some h
  obtain ⟨rfl, h⟩ := h
  obtain ⟨s0, qh0, h⟩ := obind_some h
  obtain ⟨way1, qh1, h⟩ := obind_some h
  rw [argV_eq ok qh0, argV_eq ok qh1]
  exact call_of (phiE_nat _ _) hs ok mixed Try.func68 (c := impl_WayCost_code) (by kernel_rfl) (impl_WayCost_lo n) (by kernel_rfl) (by kernel_rfl) (by kernel_rfl) impl_WayCost_de ((impl_WayCost_tie n s0 way1).trans h)
noncomputable def impl_Sea_shut_code : Code := match Try.f161.body with | some c => c | none => .skip
def impl_Sea_shut_3_sv : List Sv := [.one (.int .i64), .one (.int .i64), .one (.int .i64), .one (.arr 179), .one (.int .i64), .one (.int .i64)]
def impl_Sea_shut_3_so : List So := []
def impl_Sea_shut_3_emb (c : Int × Int × Int × List SClosed × Int) (x : Int) : EVs T impl_Sea_shut_3_sv × EOs T impl_Sea_shut_3_so := ((c.1, c.2.1, c.2.2.1, c.2.2.2.1, c.2.2.2.2, x, ()), ())
def impl_Sea_shut_3_prj (y : EVs T impl_Sea_shut_3_sv × EOs T impl_Sea_shut_3_so) : (Int × Int × Int × List SClosed × Int) × Int := ((y.1.1, y.1.2.1, y.1.2.2.1, y.1.2.2.2.1, y.1.2.2.2.2.1), (y.1.2.2.2.2.2.1))
def impl_Sea_shut_3_b (n : Nat) {R : Type} (K : Ex → Sm.St T → Option R) (c : Int × Int × Int × List SClosed × Int) (x : Int) (J : Int → Option R) : Option R :=
  impl_Sea_shut_L3 n (K (.exit 0) (stOf (T := T) [] [] [] [] () ())) (fun (y0 : Bool) => K .ret (stOf (T := T) [6] [] [.one (.bool)] [] (y0, ()) ())) J c.1 c.2.1 c.2.2.1 c.2.2.2.1 c.2.2.2.2 x
def impl_Sea_shut_3_sp (n : Nat) : LSpec T := mkSpec T ⟨[], [2, 7, 8, 20, 21, 22], []⟩ impl_Sea_shut_3_sv impl_Sea_shut_3_so (Int × Int × Int × List SClosed × Int) (Int) impl_Sea_shut_3_emb impl_Sea_shut_3_prj (impl_Sea_shut_3_b n)
noncomputable def impl_Sea_shut_3_c : Code := ((loopCodes impl_Sea_shut_code)[0]?).getD .skip
def impl_Sea_shut_ann : Ann := fun id => bif Nat.beq id 3000003 then some ⟨[], [], []⟩ else bif Nat.beq id 2000003 then some ⟨[], [6], []⟩ else none
def impl_Sea_shut_Ls (n : Nat) : Nat → Option (LSpec T) := fun id => bif Nat.beq id 3 then some (impl_Sea_shut_3_sp n) else none
theorem impl_Sea_shut_3_le (n : Nat) : LoopEq (T := T) (Phi n 21) (impl_Sea_shut_Ls n) impl_Sea_shut_ann n impl_Sea_shut_3_c (impl_Sea_shut_3_sp n) := ⟨mkSpec_dec (fun y => rfl), fun c x => by kernel_rfl, fun K J c x => by kernel_rfl⟩
theorem impl_Sea_shut_tie (n : Nat) (s0 : SSea) (p1 : Int) (step2 : Int) : evF (T := T) (Phi n 21) (impl_Sea_shut_Ls n) impl_Sea_shut_ann n Try.f161 (sg 161) [vA T 104 s0, vA T 3 p1, vA T 3 step2] impl_Sea_shut_dec = impl_Sea_shut n s0 p1 step2 := by kernel_rfl
theorem impl_Sea_shut_lo (n : Nat) : LoopsOk (T := T) (Phi n 21) (impl_Sea_shut_Ls n) impl_Sea_shut_ann n impl_Sea_shut_code := loopsOk_all (cs := [impl_Sea_shut_3_c]) (by kernel_rfl) ⟨⟨_, by kernel_rfl, impl_Sea_shut_3_le n⟩, trivial⟩
theorem impl_Sea_shut_ok (n : Nat) : EntOk Try.prog (ents n) (impl_Sea_shut_ent n) := by
  intro hs ar y hg h
  replace h : impl_Sea_shut_D n ar = some y := h
  unfold impl_Sea_shut_D at h
  replace h := ocons_some h
  obtain ⟨a0, r0, rfl, h⟩ := h
  replace h := ocons_some h
  obtain ⟨a1, r1, rfl, h⟩ := h
  replace h := ocons_some h
  obtain ⟨a2, r2, rfl, h⟩ := h
  replace h := onil_some h
  obtain ⟨rfl, h⟩ := h
  obtain ⟨s0, qh0, h⟩ := obind_some h
  obtain ⟨p1, qh1, h⟩ := obind_some h
  obtain ⟨step2, qh2, h⟩ := obind_some h
  rw [argV_eq ok qh0, argV_eq ok qh1, argV_eq ok qh2]
  exact call_of (phiE_nat _ _) hs ok mixed Try.func161 (c := impl_Sea_shut_code) (by kernel_rfl) (impl_Sea_shut_lo n) (by kernel_rfl) (by kernel_rfl) (by kernel_rfl) impl_Sea_shut_de ((impl_Sea_shut_tie n s0 p1 step2).trans h)
theorem impl_Quickest_ok (n : Nat) : EntOk Try.prog (ents n) (impl_Quickest_ent n) := by
  intro hs ar y hg h
  replace h : impl_Quickest_D n ar = some y := h
  unfold impl_Quickest_D at h
  replace h := ocons_some h
  obtain ⟨a0, r1, rfl, h⟩ := h
  replace h := ocons_some h
  obtain ⟨a1, r2, rfl, h⟩ := h
  replace h := ocons_some h
  obtain ⟨a2, r3, rfl, h⟩ := h
  replace h := ocons_some h
  obtain ⟨a3, r4, rfl, h⟩ := h
  replace h := onil_some h
  obtain ⟨rfl, h⟩ := h
  replace h := obind_some h
  obtain ⟨s0, qh0, h⟩ := h
  replace h := obind_some h
  obtain ⟨x1, qh1, h⟩ := h
  replace h := obind_some h
  obtain ⟨x2, qh2, h⟩ := h
  replace h := obind_some h
  obtain ⟨x3, qh3, h⟩ := h
  replace h : impl_Quickest n s0 x1 x2 x3 = some y := h
  rw [argV_eq ok qh0, argV_eq ok qh1, argV_eq ok qh2, argV_eq ok qh3]
  have hok : ∀ (b : Bool), impl_SeaOk n s0 = some b → CallOk Try.prog T 65 [vA T 104 s0] ⟨[vR T 4 b], []⟩ := by
    intro  b e
    have hp : PhiE (ents n) 22 65 [vA T 104 s0] (fun r => some r) = (impl_SeaOk n s0).bind fun y => some (impl_SeaOk_enc y) := by kernel_rfl
    rw [e] at hp
    exact sem_call hs hp
  have hpl : ∀ (p : Int) (b : Bool), impl_Sea_place n s0 p = some b → CallOk Try.prog T 157 [vA T 104 s0, iA p] ⟨[vR T 4 b], []⟩ := by
    intro p b e
    have hp : PhiE (ents n) 22 157 [vA T 104 s0, iA p] (fun r => some r) = (impl_Sea_place n s0 p).bind fun y => some (impl_Sea_place_enc y) := by kernel_rfl
    rw [e] at hp
    exact sem_call hs hp
  have hin : ∀ (x : Int) (b : Bool), impl_in n x 0 200 = some b → CallOk Try.prog T 87 [iA x, iA 0, iA 200] ⟨[vR T 4 b], []⟩ := by
    intro x b e
    have hp : PhiE (ents n) 22 87 [iA x, iA 0, iA 200] (fun r => some r) = (impl_in n x 0 200).bind fun y => some (impl_in_enc y) := by kernel_rfl
    rw [e] at hp
    exact sem_call hs hp
  have hshut : ∀ (q st : Int) (b : Bool), impl_Sea_shut n s0 q st = some b → CallOk Try.prog T 161 [vA T 104 s0, iA q, iA st] ⟨[vR T 4 b], []⟩ := by
    intro q st b e
    have hp : PhiE (ents n) 22 161 [vA T 104 s0, iA q, iA st] (fun r => some r) = (impl_Sea_shut n s0 q st).bind fun y => some (impl_Sea_shut_enc y) := by kernel_rfl
    rw [e] at hp
    exact sem_call hs hp
  have hnext : ∀ (p : Int) (b : List Int), impl_Sea_next n s0 p = some b → CallOk Try.prog T 158 [vA T 104 s0, iA p] ⟨[vR T 24 b], []⟩ := by
    intro p b e
    have hp : PhiE (ents n) 22 158 [vA T 104 s0, iA p] (fun r => some r) = (impl_Sea_next n s0 p).bind fun y => some (impl_Sea_next_enc y) := by kernel_rfl
    rw [e] at hp
    exact sem_call hs hp
  exact quick_call hok hpl hin hshut hnext h
noncomputable def laws_size_code : Code := match Try.f70.body with | some c => c | none => .skip
def laws_size_ann : Ann := fun id => none
def laws_size_Ls (n : Nat) : Nat → Option (LSpec T) := fun id => none
theorem laws_size_tie (n : Nat) (x0 : Int) : evF (T := T) (Phi n 23) (laws_size_Ls n) laws_size_ann n Try.f70 (sg 70) [vA T 3 x0] laws_size_dec = laws_size n x0 := by kernel_rfl
theorem laws_size_lo (n : Nat) : LoopsOk (T := T) (Phi n 23) (laws_size_Ls n) laws_size_ann n laws_size_code := loopsOk_all (cs := []) (by kernel_rfl) trivial
theorem laws_size_ok (n : Nat) : EntOk Try.prog (ents n) (laws_size_ent n) := by
  intro hs ar y hg h
  replace h : laws_size_D n ar = some y := h
  unfold laws_size_D at h
  replace h := ocons_some h
  obtain ⟨a0, r0, rfl, h⟩ := h
  replace h := onil_some h
  obtain ⟨rfl, h⟩ := h
  obtain ⟨x0, qh0, h⟩ := obind_some h
  rw [argV_eq ok qh0]
  exact call_of (phiE_nat _ _) hs ok mixed Try.func70 (c := laws_size_code) (by kernel_rfl) (laws_size_lo n) (by kernel_rfl) (by kernel_rfl) (by kernel_rfl) laws_size_de ((laws_size_tie n x0).trans h)
noncomputable def impl_WayShut_code : Code := match Try.f71.body with | some c => c | none => .skip
def impl_WayShut_5_sv : List Sv := [.one (.ptr 16 0 0), .one (.arr 3), .one (.int .i64), .one (.int .i64)]
def impl_WayShut_5_so : List So := [.var [.int .i64, .int .i64, .arr 3, .arr 179]]
def impl_WayShut_5_emb (c : List Int × Int × SSea) (x : Int) : EVs T impl_WayShut_5_sv × EOs T impl_WayShut_5_so := (((), c.1, c.2.1, x, ()), ((c.2.2.Wide, c.2.2.High, c.2.2.Costs, c.2.2.Shut, ()), ()))
def impl_WayShut_5_prj (y : EVs T impl_WayShut_5_sv × EOs T impl_WayShut_5_so) : (List Int × Int × SSea) × Int := ((y.1.2.1, y.1.2.2.1, ((⟨y.2.1.1, y.2.1.2.1, y.2.1.2.2.1, y.2.1.2.2.2.1⟩ : SSea) : SSea)), (y.1.2.2.2.1))
def impl_WayShut_5_b (n : Nat) {R : Type} (K : Ex → Sm.St T → Option R) (c : List Int × Int × SSea) (x : Int) (J : Int → Option R) : Option R :=
  impl_WayShut_L5 n (K (.exit 0) (stOf (T := T) [] [] [] [] () ())) (fun (y0 : Int) (y1 : Bool) => K .ret (stOf (T := T) [4, 5] [] [.one (.int .i64), .one (.bool)] [] (y0, y1, ()) ())) J c.1 c.2.1 x c.2.2
def impl_WayShut_5_sp (n : Nat) : LSpec T := mkSpec T ⟨[], [2, 18, 19, 20], [16]⟩ impl_WayShut_5_sv impl_WayShut_5_so (List Int × Int × SSea) (Int) impl_WayShut_5_emb impl_WayShut_5_prj (impl_WayShut_5_b n)
noncomputable def impl_WayShut_5_c : Code := ((loopCodes impl_WayShut_code)[0]?).getD .skip
def impl_WayShut_ann : Ann := fun id => bif Nat.beq id 3000005 then some ⟨[], [], []⟩ else bif Nat.beq id 2000005 then some ⟨[], [4, 5], []⟩ else none
def impl_WayShut_Ls (n : Nat) : Nat → Option (LSpec T) := fun id => bif Nat.beq id 5 then some (impl_WayShut_5_sp n) else none
theorem impl_WayShut_5_le (n : Nat) : LoopEq (T := T) (Phi n 24) (impl_WayShut_Ls n) impl_WayShut_ann n impl_WayShut_5_c (impl_WayShut_5_sp n) := ⟨mkSpec_dec (fun y => rfl), fun c x => by kernel_rfl, fun K J c x => by kernel_rfl⟩
theorem impl_WayShut_tie (n : Nat) (s0 : SSea) (way1 : List Int) : evF (T := T) (Phi n 24) (impl_WayShut_Ls n) impl_WayShut_ann n Try.f71 (sg 71) [vA T 104 s0, vA T 24 way1] impl_WayShut_dec = impl_WayShut n s0 way1 := by kernel_rfl
theorem impl_WayShut_lo (n : Nat) : LoopsOk (T := T) (Phi n 24) (impl_WayShut_Ls n) impl_WayShut_ann n impl_WayShut_code := loopsOk_all (cs := [impl_WayShut_5_c]) (by kernel_rfl) ⟨⟨_, by kernel_rfl, impl_WayShut_5_le n⟩, trivial⟩
theorem impl_WayShut_ok (n : Nat) : EntOk Try.prog (ents n) (impl_WayShut_ent n) := by
  intro hs ar y hg h
  replace h : impl_WayShut_D n ar = some y := h
  unfold impl_WayShut_D at h
  replace h := ocons_some h
  obtain ⟨a0, r0, rfl, h⟩ := h
  replace h := ocons_some h
  obtain ⟨a1, r1, rfl, h⟩ := h
  replace h := onil_some h
  obtain ⟨rfl, h⟩ := h
  obtain ⟨s0, qh0, h⟩ := obind_some h
  obtain ⟨way1, qh1, h⟩ := obind_some h
  rw [argV_eq ok qh0, argV_eq ok qh1]
  exact call_of (phiE_nat _ _) hs ok mixed Try.func71 (c := impl_WayShut_code) (by kernel_rfl) (impl_WayShut_lo n) (by kernel_rfl) (by kernel_rfl) (by kernel_rfl) impl_WayShut_de ((impl_WayShut_tie n s0 way1).trans h)
noncomputable def laws_FnCheapest_code : Code := match Try.f11.body with | some c => c | none => .skip
def laws_FnCheapest_ann : Ann := fun id => none
def laws_FnCheapest_Ls (n : Nat) : Nat → Option (LSpec T) := fun id => none
theorem laws_FnCheapest_tie (n : Nat) (code0 : List Int) : evF (T := T) (Phi n 25) (laws_FnCheapest_Ls n) laws_FnCheapest_ann n Try.f11 (sg 11) [vA T 34 code0] laws_FnCheapest_dec = laws_FnCheapest n code0 := by kernel_rfl
theorem laws_FnCheapest_lo (n : Nat) : LoopsOk (T := T) (Phi n 25) (laws_FnCheapest_Ls n) laws_FnCheapest_ann n laws_FnCheapest_code := loopsOk_all (cs := []) (by kernel_rfl) trivial
theorem laws_FnCheapest_ok (n : Nat) : EntOk Try.prog (ents n) (laws_FnCheapest_ent n) := by
  intro hs ar y hg h
  replace h : laws_FnCheapest_D n ar = some y := h
  unfold laws_FnCheapest_D at h
  replace h := ocons_some h
  obtain ⟨a0, r0, rfl, h⟩ := h
  replace h := onil_some h
  obtain ⟨rfl, h⟩ := h
  obtain ⟨code0, qh0, h⟩ := obind_some h
  rw [argV_eq ok qh0]
  exact call_of (phiE_nat _ _) hs ok mixed Try.func11 (c := laws_FnCheapest_code) (by kernel_rfl) (laws_FnCheapest_lo n) (by kernel_rfl) (by kernel_rfl) (by kernel_rfl) laws_FnCheapest_de ((laws_FnCheapest_tie n code0).trans h)
theorem entsOk (n : Nat) : EntsOk Try.prog (ents n) (ents n) := ⟨laws_big_ok n, spec_l1New_ok n, spec_l1Byte_ok n, spec_l1Below_ok n, spec_l1Once_ok n, spec_l7Draw_ok n, spec_DrawRightSea_ok n, impl_in_ok n, impl_all_1_ok n, slices_IndexFunc_int_int__impl_all_1_ok n, slices_ContainsFunc_int_int__impl_all_1_ok n, impl_all_ok n, impl_SeaOk_ok n, impl_Sea_place_ok n, impl_Sea_next_ok n, impl_Cheapest_ok n, impl_Proves_ok n, laws_at_ok n, impl_own_int_ok n, impl_WayOf_ok n, impl_WayCost_ok n, impl_Sea_shut_ok n, impl_Quickest_ok n, laws_size_ok n, impl_WayShut_ok n, laws_FnCheapest_ok n, trivial⟩
theorem sem (n i : Nat) : SemOk (Phi n i) (CallOk Try.prog T) := phiE_ok (entsOk n) i
end Go.Sm.E11
