import Derived.Test.YtikjficedlkjjaaC8Tb
import Derived.KernelRfl
/- Each function's code computes what the plain function computes. -/
set_option linter.unusedSimpArgs false
set_option linter.deprecated false
set_option linter.unusedSectionVars false
set_option linter.unusedVariables false
set_option maxRecDepth 100000
open Go Go.Proofs
noncomputable section
namespace Go.Sm.C8
/-- By recursors, and of a greater height than all of the functions: the kernel takes these apart first. -/
def obind {α β : Type} (o : Option α) (f : α → Option β) : Option β := let _ := @laws_FnRounds; Option.rec (motive := fun _ => Option β) none (fun a => f a) o
theorem obind_some {α β : Type} {o : Option α} {f : α → Option β} {y : β} (h : obind o f = some y) : ∃ a, o = some a ∧ f a = some y := by
  cases o with
  | none => cases h
  | some a => exact ⟨a, rfl, h⟩
def ocons {β : Type} (l : List (A T)) (f : A T → List (A T) → Option β) : Option β := let _ := @laws_FnRounds; List.rec (motive := fun _ => Option β) none (fun a r _ => f a r) l
theorem ocons_some {β : Type} {l : List (A T)} {f : A T → List (A T) → Option β} {y : β} (h : ocons l f = some y) : ∃ a r, l = a :: r ∧ f a r = some y := by
  cases l with
  | nil => cases h
  | cons a r => exact ⟨a, r, rfl, h⟩
def onil {β : Type} (l : List (A T)) (x : Option β) : Option β := let _ := @laws_FnRounds; List.rec (motive := fun _ => Option β) x (fun _ _ _ => none) l
theorem onil_some {β : Type} {l : List (A T)} {x : Option β} {y : β} (h : onil l x = some y) : l = [] ∧ x = some y := by
  cases l with
  | nil => exact ⟨rfl, h⟩
  | cons a r => cases h
def laws_big_dec (res : Res T) : Option Bool := match res.rets, res.outs with
  | [a0], [] => (retV (T := T) 4 a0).bind fun r0 => some (r0)
  | _, _ => none
def laws_big_enc (y : Bool) : Res T := ⟨[vR T 4 y], []⟩
theorem laws_big_de (res : Res T) (y : Bool) (h : laws_big_dec res = some y) : res = laws_big_enc y := by
  obtain ⟨rets, outs⟩ := res
  unfold laws_big_dec at h
  dsimp only at h
  split at h
  · obtain ⟨r0, h0, h⟩ := Option.bind_eq_some_iff.1 h
    cases h
    rw [retV_eq ok h0]
    rfl
  · cases h
def spec_l1New_dec (res : Res T) : Option Sl1Cur := match res.rets, res.outs with
  | [a0], [] => (retP (T := T) 160 a0).bind fun r0 => some (r0)
  | _, _ => none
def spec_l1New_enc (y : Sl1Cur) : Res T := ⟨[.ptr 160 y], []⟩
theorem spec_l1New_de (res : Res T) (y : Sl1Cur) (h : spec_l1New_dec res = some y) : res = spec_l1New_enc y := by
  obtain ⟨rets, outs⟩ := res
  unfold spec_l1New_dec at h
  dsimp only at h
  split at h
  · obtain ⟨r0, h0, h⟩ := Option.bind_eq_some_iff.1 h
    cases h
    rw [retP_eq h0]
    rfl
  · cases h
def spec_l1Byte_dec (res : Res T) : Option (Int × Sl1Cur) := match res.rets, res.outs with
  | [a0], [b0] => (retV (T := T) 3 a0).bind fun r0 => (outV (T := T) 160 b0).bind fun r1 => some (r0, r1)
  | _, _ => none
def spec_l1Byte_enc (y : Int × Sl1Cur) : Res T := ⟨[vR T 3 y.1], [.var 160 y.2]⟩
theorem spec_l1Byte_de (res : Res T) (y : Int × Sl1Cur) (h : spec_l1Byte_dec res = some y) : res = spec_l1Byte_enc y := by
  obtain ⟨rets, outs⟩ := res
  unfold spec_l1Byte_dec at h
  dsimp only at h
  split at h
  · obtain ⟨r0, h0, h⟩ := Option.bind_eq_some_iff.1 h
    obtain ⟨r1, h1, h⟩ := Option.bind_eq_some_iff.1 h
    cases h
    rw [retV_eq ok h0, outV_eq h1]
    rfl
  · cases h
def spec_l1Below_dec (res : Res T) : Option (Int × Sl1Cur) := match res.rets, res.outs with
  | [a0], [b0] => (retV (T := T) 3 a0).bind fun r0 => (outV (T := T) 160 b0).bind fun r1 => some (r0, r1)
  | _, _ => none
def spec_l1Below_enc (y : Int × Sl1Cur) : Res T := ⟨[vR T 3 y.1], [.var 160 y.2]⟩
theorem spec_l1Below_de (res : Res T) (y : Int × Sl1Cur) (h : spec_l1Below_dec res = some y) : res = spec_l1Below_enc y := by
  obtain ⟨rets, outs⟩ := res
  unfold spec_l1Below_dec at h
  dsimp only at h
  split at h
  · obtain ⟨r0, h0, h⟩ := Option.bind_eq_some_iff.1 h
    obtain ⟨r1, h1, h⟩ := Option.bind_eq_some_iff.1 h
    cases h
    rw [retV_eq ok h0, outV_eq h1]
    rfl
  · cases h
def spec_l1In_dec (res : Res T) : Option Bool := match res.rets, res.outs with
  | [a0], [] => (retV (T := T) 4 a0).bind fun r0 => some (r0)
  | _, _ => none
def spec_l1In_enc (y : Bool) : Res T := ⟨[vR T 4 y], []⟩
theorem spec_l1In_de (res : Res T) (y : Bool) (h : spec_l1In_dec res = some y) : res = spec_l1In_enc y := by
  obtain ⟨rets, outs⟩ := res
  unfold spec_l1In_dec at h
  dsimp only at h
  split at h
  · obtain ⟨r0, h0, h⟩ := Option.bind_eq_some_iff.1 h
    cases h
    rw [retV_eq ok h0]
    rfl
  · cases h
def spec_OneWay_dec (res : Res T) : Option (SFloor × Bool) := match res.rets, res.outs with
  | [a0, a1], [] => (retV (T := T) 71 a0).bind fun r0 => (retV (T := T) 4 a1).bind fun r1 => some (r0, r1)
  | _, _ => none
def spec_OneWay_enc (y : SFloor × Bool) : Res T := ⟨[vR T 71 y.1, vR T 4 y.2], []⟩
theorem spec_OneWay_de (res : Res T) (y : SFloor × Bool) (h : spec_OneWay_dec res = some y) : res = spec_OneWay_enc y := by
  obtain ⟨rets, outs⟩ := res
  unfold spec_OneWay_dec at h
  dsimp only at h
  split at h
  · obtain ⟨r0, h0, h⟩ := Option.bind_eq_some_iff.1 h
    obtain ⟨r1, h1, h⟩ := Option.bind_eq_some_iff.1 h
    cases h
    rw [retV_eq ok h0, retV_eq ok h1]
    rfl
  · cases h
def spec_l1Once_dec (res : Res T) : Option (Bool × Sl1Cur) := match res.rets, res.outs with
  | [a0], [b0] => (retV (T := T) 4 a0).bind fun r0 => (outV (T := T) 160 b0).bind fun r1 => some (r0, r1)
  | _, _ => none
def spec_l1Once_enc (y : Bool × Sl1Cur) : Res T := ⟨[vR T 4 y.1], [.var 160 y.2]⟩
theorem spec_l1Once_de (res : Res T) (y : Bool × Sl1Cur) (h : spec_l1Once_dec res = some y) : res = spec_l1Once_enc y := by
  obtain ⟨rets, outs⟩ := res
  unfold spec_l1Once_dec at h
  dsimp only at h
  split at h
  · obtain ⟨r0, h0, h⟩ := Option.bind_eq_some_iff.1 h
    obtain ⟨r1, h1, h⟩ := Option.bind_eq_some_iff.1 h
    cases h
    rw [retV_eq ok h0, outV_eq h1]
    rfl
  · cases h
def spec_l19Draw_dec (res : Res T) : Option (SFloor × Sl1Cur) := match res.rets, res.outs with
  | [a0], [b0] => (retV (T := T) 71 a0).bind fun r0 => (outV (T := T) 160 b0).bind fun r1 => some (r0, r1)
  | _, _ => none
def spec_l19Draw_enc (y : SFloor × Sl1Cur) : Res T := ⟨[vR T 71 y.1], [.var 160 y.2]⟩
theorem spec_l19Draw_de (res : Res T) (y : SFloor × Sl1Cur) (h : spec_l19Draw_dec res = some y) : res = spec_l19Draw_enc y := by
  obtain ⟨rets, outs⟩ := res
  unfold spec_l19Draw_dec at h
  dsimp only at h
  split at h
  · obtain ⟨r0, h0, h⟩ := Option.bind_eq_some_iff.1 h
    obtain ⟨r1, h1, h⟩ := Option.bind_eq_some_iff.1 h
    cases h
    rw [retV_eq ok h0, outV_eq h1]
    rfl
  · cases h
def spec_l19DrawCarts_dec (res : Res T) : Option (List SCart × Sl1Cur) := match res.rets, res.outs with
  | [a0], [b0] => (retV (T := T) 72 a0).bind fun r0 => (outV (T := T) 160 b0).bind fun r1 => some (r0, r1)
  | _, _ => none
def spec_l19DrawCarts_enc (y : List SCart × Sl1Cur) : Res T := ⟨[vR T 72 y.1], [.var 160 y.2]⟩
theorem spec_l19DrawCarts_de (res : Res T) (y : List SCart × Sl1Cur) (h : spec_l19DrawCarts_dec res = some y) : res = spec_l19DrawCarts_enc y := by
  obtain ⟨rets, outs⟩ := res
  unfold spec_l19DrawCarts_dec at h
  dsimp only at h
  split at h
  · obtain ⟨r0, h0, h⟩ := Option.bind_eq_some_iff.1 h
    obtain ⟨r1, h1, h⟩ := Option.bind_eq_some_iff.1 h
    cases h
    rw [retV_eq ok h0, outV_eq h1]
    rfl
  · cases h
def spec_DrawFloor_dec (res : Res T) : Option (SFloor × List SCart) := match res.rets, res.outs with
  | [a0, a1], [] => (retV (T := T) 71 a0).bind fun r0 => (retV (T := T) 72 a1).bind fun r1 => some (r0, r1)
  | _, _ => none
def spec_DrawFloor_enc (y : SFloor × List SCart) : Res T := ⟨[vR T 71 y.1, vR T 72 y.2], []⟩
theorem spec_DrawFloor_de (res : Res T) (y : SFloor × List SCart) (h : spec_DrawFloor_dec res = some y) : res = spec_DrawFloor_enc y := by
  obtain ⟨rets, outs⟩ := res
  unfold spec_DrawFloor_dec at h
  dsimp only at h
  split at h
  · obtain ⟨r0, h0, h⟩ := Option.bind_eq_some_iff.1 h
    obtain ⟨r1, h1, h⟩ := Option.bind_eq_some_iff.1 h
    cases h
    rw [retV_eq ok h0, retV_eq ok h1]
    rfl
  · cases h
def impl_in_dec (res : Res T) : Option Bool := match res.rets, res.outs with
  | [a0], [] => (retV (T := T) 4 a0).bind fun r0 => some (r0)
  | _, _ => none
def impl_in_enc (y : Bool) : Res T := ⟨[vR T 4 y], []⟩
theorem impl_in_de (res : Res T) (y : Bool) (h : impl_in_dec res = some y) : res = impl_in_enc y := by
  obtain ⟨rets, outs⟩ := res
  unfold impl_in_dec at h
  dsimp only at h
  split at h
  · obtain ⟨r0, h0, h⟩ := Option.bind_eq_some_iff.1 h
    cases h
    rw [retV_eq ok h0]
    rfl
  · cases h
def impl_all_1_dec (res : Res T) : Option Bool := match res.rets, res.outs with
  | [a0], [] => (retV (T := T) 4 a0).bind fun r0 => some (r0)
  | _, _ => none
def impl_all_1_enc (y : Bool) : Res T := ⟨[vR T 4 y], []⟩
theorem impl_all_1_de (res : Res T) (y : Bool) (h : impl_all_1_dec res = some y) : res = impl_all_1_enc y := by
  obtain ⟨rets, outs⟩ := res
  unfold impl_all_1_dec at h
  dsimp only at h
  split at h
  · obtain ⟨r0, h0, h⟩ := Option.bind_eq_some_iff.1 h
    cases h
    rw [retV_eq ok h0]
    rfl
  · cases h
def slices_IndexFunc_int_int__impl_all_1_dec (res : Res T) : Option Int := match res.rets, res.outs with
  | [a0], [] => (retV (T := T) 3 a0).bind fun r0 => some (r0)
  | _, _ => none
def slices_IndexFunc_int_int__impl_all_1_enc (y : Int) : Res T := ⟨[vR T 3 y], []⟩
theorem slices_IndexFunc_int_int__impl_all_1_de (res : Res T) (y : Int) (h : slices_IndexFunc_int_int__impl_all_1_dec res = some y) : res = slices_IndexFunc_int_int__impl_all_1_enc y := by
  obtain ⟨rets, outs⟩ := res
  unfold slices_IndexFunc_int_int__impl_all_1_dec at h
  dsimp only at h
  split at h
  · obtain ⟨r0, h0, h⟩ := Option.bind_eq_some_iff.1 h
    cases h
    rw [retV_eq ok h0]
    rfl
  · cases h
def slices_ContainsFunc_int_int__impl_all_1_dec (res : Res T) : Option Bool := match res.rets, res.outs with
  | [a0], [] => (retV (T := T) 4 a0).bind fun r0 => some (r0)
  | _, _ => none
def slices_ContainsFunc_int_int__impl_all_1_enc (y : Bool) : Res T := ⟨[vR T 4 y], []⟩
theorem slices_ContainsFunc_int_int__impl_all_1_de (res : Res T) (y : Bool) (h : slices_ContainsFunc_int_int__impl_all_1_dec res = some y) : res = slices_ContainsFunc_int_int__impl_all_1_enc y := by
  obtain ⟨rets, outs⟩ := res
  unfold slices_ContainsFunc_int_int__impl_all_1_dec at h
  dsimp only at h
  split at h
  · obtain ⟨r0, h0, h⟩ := Option.bind_eq_some_iff.1 h
    cases h
    rw [retV_eq ok h0]
    rfl
  · cases h
def impl_all_dec (res : Res T) : Option Bool := match res.rets, res.outs with
  | [a0], [] => (retV (T := T) 4 a0).bind fun r0 => some (r0)
  | _, _ => none
def impl_all_enc (y : Bool) : Res T := ⟨[vR T 4 y], []⟩
theorem impl_all_de (res : Res T) (y : Bool) (h : impl_all_dec res = some y) : res = impl_all_enc y := by
  obtain ⟨rets, outs⟩ := res
  unfold impl_all_dec at h
  dsimp only at h
  split at h
  · obtain ⟨r0, h0, h⟩ := Option.bind_eq_some_iff.1 h
    cases h
    rw [retV_eq ok h0]
    rfl
  · cases h
def impl_FloorOk_dec (res : Res T) : Option Bool := match res.rets, res.outs with
  | [a0], [] => (retV (T := T) 4 a0).bind fun r0 => some (r0)
  | _, _ => none
def impl_FloorOk_enc (y : Bool) : Res T := ⟨[vR T 4 y], []⟩
theorem impl_FloorOk_de (res : Res T) (y : Bool) (h : impl_FloorOk_dec res = some y) : res = impl_FloorOk_enc y := by
  obtain ⟨rets, outs⟩ := res
  unfold impl_FloorOk_dec at h
  dsimp only at h
  split at h
  · obtain ⟨r0, h0, h⟩ := Option.bind_eq_some_iff.1 h
    cases h
    rw [retV_eq ok h0]
    rfl
  · cases h
def impl_Floor_place_dec (res : Res T) : Option Bool := match res.rets, res.outs with
  | [a0], [] => (retV (T := T) 4 a0).bind fun r0 => some (r0)
  | _, _ => none
def impl_Floor_place_enc (y : Bool) : Res T := ⟨[vR T 4 y], []⟩
theorem impl_Floor_place_de (res : Res T) (y : Bool) (h : impl_Floor_place_dec res = some y) : res = impl_Floor_place_enc y := by
  obtain ⟨rets, outs⟩ := res
  unfold impl_Floor_place_dec at h
  dsimp only at h
  split at h
  · obtain ⟨r0, h0, h⟩ := Option.bind_eq_some_iff.1 h
    cases h
    rw [retV_eq ok h0]
    rfl
  · cases h
def impl_CartsOk_1_dec (res : Res T) : Option Bool := match res.rets, res.outs with
  | [a0], [] => (retV (T := T) 4 a0).bind fun r0 => some (r0)
  | _, _ => none
def impl_CartsOk_1_enc (y : Bool) : Res T := ⟨[vR T 4 y], []⟩
theorem impl_CartsOk_1_de (res : Res T) (y : Bool) (h : impl_CartsOk_1_dec res = some y) : res = impl_CartsOk_1_enc y := by
  obtain ⟨rets, outs⟩ := res
  unfold impl_CartsOk_1_dec at h
  dsimp only at h
  split at h
  · obtain ⟨r0, h0, h⟩ := Option.bind_eq_some_iff.1 h
    cases h
    rw [retV_eq ok h0]
    rfl
  · cases h
def slices_IndexFunc_impl_Cart_impl_Cart__impl_CartsOk_1_dec (res : Res T) : Option Int := match res.rets, res.outs with
  | [a0], [] => (retV (T := T) 3 a0).bind fun r0 => some (r0)
  | _, _ => none
def slices_IndexFunc_impl_Cart_impl_Cart__impl_CartsOk_1_enc (y : Int) : Res T := ⟨[vR T 3 y], []⟩
theorem slices_IndexFunc_impl_Cart_impl_Cart__impl_CartsOk_1_de (res : Res T) (y : Int) (h : slices_IndexFunc_impl_Cart_impl_Cart__impl_CartsOk_1_dec res = some y) : res = slices_IndexFunc_impl_Cart_impl_Cart__impl_CartsOk_1_enc y := by
  obtain ⟨rets, outs⟩ := res
  unfold slices_IndexFunc_impl_Cart_impl_Cart__impl_CartsOk_1_dec at h
  dsimp only at h
  split at h
  · obtain ⟨r0, h0, h⟩ := Option.bind_eq_some_iff.1 h
    cases h
    rw [retV_eq ok h0]
    rfl
  · cases h
def slices_ContainsFunc_impl_Cart_impl_Cart__impl_CartsOk_1_dec (res : Res T) : Option Bool := match res.rets, res.outs with
  | [a0], [] => (retV (T := T) 4 a0).bind fun r0 => some (r0)
  | _, _ => none
def slices_ContainsFunc_impl_Cart_impl_Cart__impl_CartsOk_1_enc (y : Bool) : Res T := ⟨[vR T 4 y], []⟩
theorem slices_ContainsFunc_impl_Cart_impl_Cart__impl_CartsOk_1_de (res : Res T) (y : Bool) (h : slices_ContainsFunc_impl_Cart_impl_Cart__impl_CartsOk_1_dec res = some y) : res = slices_ContainsFunc_impl_Cart_impl_Cart__impl_CartsOk_1_enc y := by
  obtain ⟨rets, outs⟩ := res
  unfold slices_ContainsFunc_impl_Cart_impl_Cart__impl_CartsOk_1_dec at h
  dsimp only at h
  split at h
  · obtain ⟨r0, h0, h⟩ := Option.bind_eq_some_iff.1 h
    cases h
    rw [retV_eq ok h0]
    rfl
  · cases h
def impl_CartsOk_dec (res : Res T) : Option Bool := match res.rets, res.outs with
  | [a0], [] => (retV (T := T) 4 a0).bind fun r0 => some (r0)
  | _, _ => none
def impl_CartsOk_enc (y : Bool) : Res T := ⟨[vR T 4 y], []⟩
theorem impl_CartsOk_de (res : Res T) (y : Bool) (h : impl_CartsOk_dec res = some y) : res = impl_CartsOk_enc y := by
  obtain ⟨rets, outs⟩ := res
  unfold impl_CartsOk_dec at h
  dsimp only at h
  split at h
  · obtain ⟨r0, h0, h⟩ := Option.bind_eq_some_iff.1 h
    cases h
    rw [retV_eq ok h0]
    rfl
  · cases h
def impl_Floor_leads_dec (res : Res T) : Option (List Int) := match res.rets, res.outs with
  | [a0], [] => (retV (T := T) 41 a0).bind fun r0 => some (r0)
  | _, _ => none
def impl_Floor_leads_enc (y : List Int) : Res T := ⟨[vR T 41 y], []⟩
theorem impl_Floor_leads_de (res : Res T) (y : List Int) (h : impl_Floor_leads_dec res = some y) : res = impl_Floor_leads_enc y := by
  obtain ⟨rets, outs⟩ := res
  unfold impl_Floor_leads_dec at h
  dsimp only at h
  split at h
  · obtain ⟨r0, h0, h⟩ := Option.bind_eq_some_iff.1 h
    cases h
    rw [retV_eq ok h0]
    rfl
  · cases h
def impl_Hops_1_dec (res : Res T) : Option Bool := match res.rets, res.outs with
  | [a0], [] => (retV (T := T) 4 a0).bind fun r0 => some (r0)
  | _, _ => none
def impl_Hops_1_enc (y : Bool) : Res T := ⟨[vR T 4 y], []⟩
theorem impl_Hops_1_de (res : Res T) (y : Bool) (h : impl_Hops_1_dec res = some y) : res = impl_Hops_1_enc y := by
  obtain ⟨rets, outs⟩ := res
  unfold impl_Hops_1_dec at h
  dsimp only at h
  split at h
  · obtain ⟨r0, h0, h⟩ := Option.bind_eq_some_iff.1 h
    cases h
    rw [retV_eq ok h0]
    rfl
  · cases h
def slices_IndexFunc_int_int__impl_Hops_1_dec (res : Res T) : Option Int := match res.rets, res.outs with
  | [a0], [] => (retV (T := T) 3 a0).bind fun r0 => some (r0)
  | _, _ => none
def slices_IndexFunc_int_int__impl_Hops_1_enc (y : Int) : Res T := ⟨[vR T 3 y], []⟩
theorem slices_IndexFunc_int_int__impl_Hops_1_de (res : Res T) (y : Int) (h : slices_IndexFunc_int_int__impl_Hops_1_dec res = some y) : res = slices_IndexFunc_int_int__impl_Hops_1_enc y := by
  obtain ⟨rets, outs⟩ := res
  unfold slices_IndexFunc_int_int__impl_Hops_1_dec at h
  dsimp only at h
  split at h
  · obtain ⟨r0, h0, h⟩ := Option.bind_eq_some_iff.1 h
    cases h
    rw [retV_eq ok h0]
    rfl
  · cases h
def slices_ContainsFunc_int_int__impl_Hops_1_dec (res : Res T) : Option Bool := match res.rets, res.outs with
  | [a0], [] => (retV (T := T) 4 a0).bind fun r0 => some (r0)
  | _, _ => none
def slices_ContainsFunc_int_int__impl_Hops_1_enc (y : Bool) : Res T := ⟨[vR T 4 y], []⟩
theorem slices_ContainsFunc_int_int__impl_Hops_1_de (res : Res T) (y : Bool) (h : slices_ContainsFunc_int_int__impl_Hops_1_dec res = some y) : res = slices_ContainsFunc_int_int__impl_Hops_1_enc y := by
  obtain ⟨rets, outs⟩ := res
  unfold slices_ContainsFunc_int_int__impl_Hops_1_dec at h
  dsimp only at h
  split at h
  · obtain ⟨r0, h0, h⟩ := Option.bind_eq_some_iff.1 h
    cases h
    rw [retV_eq ok h0]
    rfl
  · cases h
def impl_Hops_dec (res : Res T) : Option (List Int × Bool) := match res.rets, res.outs with
  | [a0, a1], [] => (retV (T := T) 41 a0).bind fun r0 => (retV (T := T) 4 a1).bind fun r1 => some (r0, r1)
  | _, _ => none
def impl_Hops_enc (y : List Int × Bool) : Res T := ⟨[vR T 41 y.1, vR T 4 y.2], []⟩
theorem impl_Hops_de (res : Res T) (y : List Int × Bool) (h : impl_Hops_dec res = some y) : res = impl_Hops_enc y := by
  obtain ⟨rets, outs⟩ := res
  unfold impl_Hops_dec at h
  dsimp only at h
  split at h
  · obtain ⟨r0, h0, h⟩ := Option.bind_eq_some_iff.1 h
    obtain ⟨r1, h1, h⟩ := Option.bind_eq_some_iff.1 h
    cases h
    rw [retV_eq ok h0, retV_eq ok h1]
    rfl
  · cases h
def impl_Floor_want_dec (res : Res T) : Option Int := match res.rets, res.outs with
  | [a0], [] => (retV (T := T) 3 a0).bind fun r0 => some (r0)
  | _, _ => none
def impl_Floor_want_enc (y : Int) : Res T := ⟨[vR T 3 y], []⟩
theorem impl_Floor_want_de (res : Res T) (y : Int) (h : impl_Floor_want_dec res = some y) : res = impl_Floor_want_enc y := by
  obtain ⟨rets, outs⟩ := res
  unfold impl_Floor_want_dec at h
  dsimp only at h
  split at h
  · obtain ⟨r0, h0, h⟩ := Option.bind_eq_some_iff.1 h
    cases h
    rw [retV_eq ok h0]
    rfl
  · cases h
def impl_Round_1_dec (res : Res T) : Option Bool := match res.rets, res.outs with
  | [a0], [] => (retV (T := T) 4 a0).bind fun r0 => some (r0)
  | _, _ => none
def impl_Round_1_enc (y : Bool) : Res T := ⟨[vR T 4 y], []⟩
theorem impl_Round_1_de (res : Res T) (y : Bool) (h : impl_Round_1_dec res = some y) : res = impl_Round_1_enc y := by
  obtain ⟨rets, outs⟩ := res
  unfold impl_Round_1_dec at h
  dsimp only at h
  split at h
  · obtain ⟨r0, h0, h⟩ := Option.bind_eq_some_iff.1 h
    cases h
    rw [retV_eq ok h0]
    rfl
  · cases h
def impl_own_impl_Cart_dec (res : Res T) : Option (List SCart) := match res.rets, res.outs with
  | [a0], [] => (retV (T := T) 72 a0).bind fun r0 => some (r0)
  | _, _ => none
def impl_own_impl_Cart_enc (y : List SCart) : Res T := ⟨[vR T 72 y], []⟩
theorem impl_own_impl_Cart_de (res : Res T) (y : List SCart) (h : impl_own_impl_Cart_dec res = some y) : res = impl_own_impl_Cart_enc y := by
  obtain ⟨rets, outs⟩ := res
  unfold impl_own_impl_Cart_dec at h
  dsimp only at h
  split at h
  · obtain ⟨r0, h0, h⟩ := Option.bind_eq_some_iff.1 h
    cases h
    rw [retV_eq ok h0]
    rfl
  · cases h
def impl_own_int_dec (res : Res T) : Option (List Int) := match res.rets, res.outs with
  | [a0], [] => (retV (T := T) 41 a0).bind fun r0 => some (r0)
  | _, _ => none
def impl_own_int_enc (y : List Int) : Res T := ⟨[vR T 41 y], []⟩
theorem impl_own_int_de (res : Res T) (y : List Int) (h : impl_own_int_dec res = some y) : res = impl_own_int_enc y := by
  obtain ⟨rets, outs⟩ := res
  unfold impl_own_int_dec at h
  dsimp only at h
  split at h
  · obtain ⟨r0, h0, h⟩ := Option.bind_eq_some_iff.1 h
    cases h
    rw [retV_eq ok h0]
    rfl
  · cases h
def impl_Round_dec (res : Res T) : Option (List SCart × List Int × Bool) := match res.rets, res.outs with
  | [a0, a1, a2], [] => (retV (T := T) 72 a0).bind fun r0 => (retV (T := T) 41 a1).bind fun r1 => (retV (T := T) 4 a2).bind fun r2 => some (r0, r1, r2)
  | _, _ => none
def impl_Round_enc (y : List SCart × List Int × Bool) : Res T := ⟨[vR T 72 y.1, vR T 41 y.2.1, vR T 4 y.2.2], []⟩
theorem impl_Round_de (res : Res T) (y : List SCart × List Int × Bool) (h : impl_Round_dec res = some y) : res = impl_Round_enc y := by
  obtain ⟨rets, outs⟩ := res
  unfold impl_Round_dec at h
  dsimp only at h
  split at h
  · obtain ⟨r0, h0, h⟩ := Option.bind_eq_some_iff.1 h
    obtain ⟨r1, h1, h⟩ := Option.bind_eq_some_iff.1 h
    obtain ⟨r2, h2, h⟩ := Option.bind_eq_some_iff.1 h
    cases h
    rw [retV_eq ok h0, retV_eq ok h1, retV_eq ok h2]
    rfl
  · cases h
def slices_Index_int_int_dec (res : Res T) : Option Int := match res.rets, res.outs with
  | [a0], [] => (retV (T := T) 3 a0).bind fun r0 => some (r0)
  | _, _ => none
def slices_Index_int_int_enc (y : Int) : Res T := ⟨[vR T 3 y], []⟩
theorem slices_Index_int_int_de (res : Res T) (y : Int) (h : slices_Index_int_int_dec res = some y) : res = slices_Index_int_int_enc y := by
  obtain ⟨rets, outs⟩ := res
  unfold slices_Index_int_int_dec at h
  dsimp only at h
  split at h
  · obtain ⟨r0, h0, h⟩ := Option.bind_eq_some_iff.1 h
    cases h
    rw [retV_eq ok h0]
    rfl
  · cases h
def slices_Contains_int_int_dec (res : Res T) : Option Bool := match res.rets, res.outs with
  | [a0], [] => (retV (T := T) 4 a0).bind fun r0 => some (r0)
  | _, _ => none
def slices_Contains_int_int_enc (y : Bool) : Res T := ⟨[vR T 4 y], []⟩
theorem slices_Contains_int_int_de (res : Res T) (y : Bool) (h : slices_Contains_int_int_dec res = some y) : res = slices_Contains_int_int_enc y := by
  obtain ⟨rets, outs⟩ := res
  unfold slices_Contains_int_int_dec at h
  dsimp only at h
  split at h
  · obtain ⟨r0, h0, h⟩ := Option.bind_eq_some_iff.1 h
    cases h
    rw [retV_eq ok h0]
    rfl
  · cases h
def impl_Stuck_dec (res : Res T) : Option (List Int × Bool) := match res.rets, res.outs with
  | [a0, a1], [] => (retV (T := T) 41 a0).bind fun r0 => (retV (T := T) 4 a1).bind fun r1 => some (r0, r1)
  | _, _ => none
def impl_Stuck_enc (y : List Int × Bool) : Res T := ⟨[vR T 41 y.1, vR T 4 y.2], []⟩
theorem impl_Stuck_de (res : Res T) (y : List Int × Bool) (h : impl_Stuck_dec res = some y) : res = impl_Stuck_enc y := by
  obtain ⟨rets, outs⟩ := res
  unfold impl_Stuck_dec at h
  dsimp only at h
  split at h
  · obtain ⟨r0, h0, h⟩ := Option.bind_eq_some_iff.1 h
    obtain ⟨r1, h1, h⟩ := Option.bind_eq_some_iff.1 h
    cases h
    rw [retV_eq ok h0, retV_eq ok h1]
    rfl
  · cases h
def laws_within_dec (res : Res T) : Option Bool := match res.rets, res.outs with
  | [a0], [] => (retV (T := T) 4 a0).bind fun r0 => some (r0)
  | _, _ => none
def laws_within_enc (y : Bool) : Res T := ⟨[vR T 4 y], []⟩
theorem laws_within_de (res : Res T) (y : Bool) (h : laws_within_dec res = some y) : res = laws_within_enc y := by
  obtain ⟨rets, outs⟩ := res
  unfold laws_within_dec at h
  dsimp only at h
  split at h
  · obtain ⟨r0, h0, h⟩ := Option.bind_eq_some_iff.1 h
    cases h
    rw [retV_eq ok h0]
    rfl
  · cases h
def spec_l3All_dec (res : Res T) : Option Bool := match res.rets, res.outs with
  | [a0], [] => (retV (T := T) 4 a0).bind fun r0 => some (r0)
  | _, _ => none
def spec_l3All_enc (y : Bool) : Res T := ⟨[vR T 4 y], []⟩
theorem spec_l3All_de (res : Res T) (y : Bool) (h : spec_l3All_dec res = some y) : res = spec_l3All_enc y := by
  obtain ⟨rets, outs⟩ := res
  unfold spec_l3All_dec at h
  dsimp only at h
  split at h
  · obtain ⟨r0, h0, h⟩ := Option.bind_eq_some_iff.1 h
    cases h
    rw [retV_eq ok h0]
    rfl
  · cases h
def spec_FloorOk_dec (res : Res T) : Option Bool := match res.rets, res.outs with
  | [a0], [] => (retV (T := T) 4 a0).bind fun r0 => some (r0)
  | _, _ => none
def spec_FloorOk_enc (y : Bool) : Res T := ⟨[vR T 4 y], []⟩
theorem spec_FloorOk_de (res : Res T) (y : Bool) (h : spec_FloorOk_dec res = some y) : res = spec_FloorOk_enc y := by
  obtain ⟨rets, outs⟩ := res
  unfold spec_FloorOk_dec at h
  dsimp only at h
  split at h
  · obtain ⟨r0, h0, h⟩ := Option.bind_eq_some_iff.1 h
    cases h
    rw [retV_eq ok h0]
    rfl
  · cases h
def spec_l19Next_dec (res : Res T) : Option Int := match res.rets, res.outs with
  | [a0], [] => (retV (T := T) 3 a0).bind fun r0 => some (r0)
  | _, _ => none
def spec_l19Next_enc (y : Int) : Res T := ⟨[vR T 3 y], []⟩
theorem spec_l19Next_de (res : Res T) (y : Int) (h : spec_l19Next_dec res = some y) : res = spec_l19Next_enc y := by
  obtain ⟨rets, outs⟩ := res
  unfold spec_l19Next_dec at h
  dsimp only at h
  split at h
  · obtain ⟨r0, h0, h⟩ := Option.bind_eq_some_iff.1 h
    cases h
    rw [retV_eq ok h0]
    rfl
  · cases h
def spec_Hops_dec (res : Res T) : Option (List Int × Bool) := match res.rets, res.outs with
  | [a0, a1], [] => (retV (T := T) 41 a0).bind fun r0 => (retV (T := T) 4 a1).bind fun r1 => some (r0, r1)
  | _, _ => none
def spec_Hops_enc (y : List Int × Bool) : Res T := ⟨[vR T 41 y.1, vR T 4 y.2], []⟩
theorem spec_Hops_de (res : Res T) (y : List Int × Bool) (h : spec_Hops_dec res = some y) : res = spec_Hops_enc y := by
  obtain ⟨rets, outs⟩ := res
  unfold spec_Hops_dec at h
  dsimp only at h
  split at h
  · obtain ⟨r0, h0, h⟩ := Option.bind_eq_some_iff.1 h
    obtain ⟨r1, h1, h⟩ := Option.bind_eq_some_iff.1 h
    cases h
    rw [retV_eq ok h0, retV_eq ok h1]
    rfl
  · cases h
def impl_Settle19_1_dec (res : Res T) : Option Bool := match res.rets, res.outs with
  | [a0], [] => (retV (T := T) 4 a0).bind fun r0 => some (r0)
  | _, _ => none
def impl_Settle19_1_enc (y : Bool) : Res T := ⟨[vR T 4 y], []⟩
theorem impl_Settle19_1_de (res : Res T) (y : Bool) (h : impl_Settle19_1_dec res = some y) : res = impl_Settle19_1_enc y := by
  obtain ⟨rets, outs⟩ := res
  unfold impl_Settle19_1_dec at h
  dsimp only at h
  split at h
  · obtain ⟨r0, h0, h⟩ := Option.bind_eq_some_iff.1 h
    cases h
    rw [retV_eq ok h0]
    rfl
  · cases h
def slices_IndexFunc_impl_Cart_impl_Cart__impl_Settle19_1_dec (res : Res T) : Option Int := match res.rets, res.outs with
  | [a0], [] => (retV (T := T) 3 a0).bind fun r0 => some (r0)
  | _, _ => none
def slices_IndexFunc_impl_Cart_impl_Cart__impl_Settle19_1_enc (y : Int) : Res T := ⟨[vR T 3 y], []⟩
theorem slices_IndexFunc_impl_Cart_impl_Cart__impl_Settle19_1_de (res : Res T) (y : Int) (h : slices_IndexFunc_impl_Cart_impl_Cart__impl_Settle19_1_dec res = some y) : res = slices_IndexFunc_impl_Cart_impl_Cart__impl_Settle19_1_enc y := by
  obtain ⟨rets, outs⟩ := res
  unfold slices_IndexFunc_impl_Cart_impl_Cart__impl_Settle19_1_dec at h
  dsimp only at h
  split at h
  · obtain ⟨r0, h0, h⟩ := Option.bind_eq_some_iff.1 h
    cases h
    rw [retV_eq ok h0]
    rfl
  · cases h
def slices_ContainsFunc_impl_Cart_impl_Cart__impl_Settle19_1_dec (res : Res T) : Option Bool := match res.rets, res.outs with
  | [a0], [] => (retV (T := T) 4 a0).bind fun r0 => some (r0)
  | _, _ => none
def slices_ContainsFunc_impl_Cart_impl_Cart__impl_Settle19_1_enc (y : Bool) : Res T := ⟨[vR T 4 y], []⟩
theorem slices_ContainsFunc_impl_Cart_impl_Cart__impl_Settle19_1_de (res : Res T) (y : Bool) (h : slices_ContainsFunc_impl_Cart_impl_Cart__impl_Settle19_1_dec res = some y) : res = slices_ContainsFunc_impl_Cart_impl_Cart__impl_Settle19_1_enc y := by
  obtain ⟨rets, outs⟩ := res
  unfold slices_ContainsFunc_impl_Cart_impl_Cart__impl_Settle19_1_dec at h
  dsimp only at h
  split at h
  · obtain ⟨r0, h0, h⟩ := Option.bind_eq_some_iff.1 h
    cases h
    rw [retV_eq ok h0]
    rfl
  · cases h
def impl_Settle19_dec (res : Res T) : Option (List SCart × Int × Bool) := match res.rets, res.outs with
  | [a0, a1, a2], [] => (retV (T := T) 72 a0).bind fun r0 => (retV (T := T) 3 a1).bind fun r1 => (retV (T := T) 4 a2).bind fun r2 => some (r0, r1, r2)
  | _, _ => none
def impl_Settle19_enc (y : List SCart × Int × Bool) : Res T := ⟨[vR T 72 y.1, vR T 3 y.2.1, vR T 4 y.2.2], []⟩
theorem impl_Settle19_de (res : Res T) (y : List SCart × Int × Bool) (h : impl_Settle19_dec res = some y) : res = impl_Settle19_enc y := by
  obtain ⟨rets, outs⟩ := res
  unfold impl_Settle19_dec at h
  dsimp only at h
  split at h
  · obtain ⟨r0, h0, h⟩ := Option.bind_eq_some_iff.1 h
    obtain ⟨r1, h1, h⟩ := Option.bind_eq_some_iff.1 h
    obtain ⟨r2, h2, h⟩ := Option.bind_eq_some_iff.1 h
    cases h
    rw [retV_eq ok h0, retV_eq ok h1, retV_eq ok h2]
    rfl
  · cases h
def laws_FnRounds_dec (res : Res T) : Option Bool := match res.rets, res.outs with
  | [a0], [] => (retV (T := T) 4 a0).bind fun r0 => some (r0)
  | _, _ => none
def laws_FnRounds_enc (y : Bool) : Res T := ⟨[vR T 4 y], []⟩
theorem laws_FnRounds_de (res : Res T) (y : Bool) (h : laws_FnRounds_dec res = some y) : res = laws_FnRounds_enc y := by
  obtain ⟨rets, outs⟩ := res
  unfold laws_FnRounds_dec at h
  dsimp only at h
  split at h
  · obtain ⟨r0, h0, h⟩ := Option.bind_eq_some_iff.1 h
    cases h
    rw [retV_eq ok h0]
    rfl
  · cases h
def laws_big_D (n : Nat) (r0 : List (A T)) : Option Bool := ocons r0 fun a0 r1 => onil r1 (obind (argV (T := T) 22 a0) fun code0 => laws_big n code0)
def laws_big_ent (n : Nat) : Ent T := ⟨12, 0, [], Bool, laws_big_D n, laws_big_enc⟩
def spec_l1New_D (n : Nat) (r0 : List (A T)) : Option Sl1Cur := ocons r0 fun a0 r1 => onil r1 (obind (argV (T := T) 22 a0) fun code0 => spec_l1New n code0)
def spec_l1New_ent (n : Nat) : Ent T := ⟨65, 1, [], Sl1Cur, spec_l1New_D n, spec_l1New_enc⟩
def spec_l1Byte_D (n : Nat) (r0 : List (A T)) : Option (Int × Sl1Cur) := ocons r0 fun a0 r1 => onil r1 (obind (argP (T := T) 160 a0) fun c0 => spec_l1Byte n c0)
def spec_l1Byte_ent (n : Nat) : Ent T := ⟨143, 2, [], Int × Sl1Cur, spec_l1Byte_D n, spec_l1Byte_enc⟩
def spec_l1Below_D (n : Nat) (r0 : List (A T)) : Option (Int × Sl1Cur) := ocons r0 fun a0 r1 => ocons r1 fun a1 r2 => onil r2 (obind (argP (T := T) 160 a0) fun c0 => obind (argV (T := T) 3 a1) fun n1 => spec_l1Below n c0 n1)
def spec_l1Below_ent (n : Nat) : Ent T := ⟨76, 3, [], Int × Sl1Cur, spec_l1Below_D n, spec_l1Below_enc⟩
def spec_l1In_D (n : Nat) (r0 : List (A T)) : Option Bool := ocons r0 fun a0 r1 => ocons r1 fun a1 r2 => ocons r2 fun a2 r3 => onil r3 (obind (argV (T := T) 3 a0) fun x0 => obind (argV (T := T) 3 a1) fun a1 => obind (argV (T := T) 3 a2) fun b2 => spec_l1In n x0 a1 b2)
def spec_l1In_ent (n : Nat) : Ent T := ⟨71, 4, [], Bool, spec_l1In_D n, spec_l1In_enc⟩
def spec_OneWay_D (n : Nat) (r0 : List (A T)) : Option (SFloor × Bool) := ocons r0 fun a0 r1 => ocons r1 fun a1 r2 => onil r2 (obind (argV (T := T) 3 a0) fun wide0 => obind (argV (T := T) 3 a1) fun high1 => spec_OneWay n wide0 high1)
def spec_OneWay_ent (n : Nat) : Ent T := ⟨161, 5, [], SFloor × Bool, spec_OneWay_D n, spec_OneWay_enc⟩
def spec_l1Once_D (n : Nat) (r0 : List (A T)) : Option (Bool × Sl1Cur) := ocons r0 fun a0 r1 => ocons r1 fun a1 r2 => onil r2 (obind (argP (T := T) 160 a0) fun c0 => obind (argV (T := T) 3 a1) fun n1 => spec_l1Once n c0 n1)
def spec_l1Once_ent (n : Nat) : Ent T := ⟨78, 6, [], Bool × Sl1Cur, spec_l1Once_D n, spec_l1Once_enc⟩
def spec_l19Draw_D (n : Nat) (r0 : List (A T)) : Option (SFloor × Sl1Cur) := ocons r0 fun a0 r1 => onil r1 (obind (argP (T := T) 160 a0) fun c0 => spec_l19Draw n c0)
def spec_l19Draw_ent (n : Nat) : Ent T := ⟨117, 7, [], SFloor × Sl1Cur, spec_l19Draw_D n, spec_l19Draw_enc⟩
def spec_l19DrawCarts_D (n : Nat) (r0 : List (A T)) : Option (List SCart × Sl1Cur) := ocons r0 fun a0 r1 => ocons r1 fun a1 r2 => onil r2 (obind (argP (T := T) 160 a0) fun c0 => obind (argV (T := T) 71 a1) fun f1 => spec_l19DrawCarts n c0 f1)
def spec_l19DrawCarts_ent (n : Nat) : Ent T := ⟨118, 8, [], List SCart × Sl1Cur, spec_l19DrawCarts_D n, spec_l19DrawCarts_enc⟩
def spec_DrawFloor_D (n : Nat) (r0 : List (A T)) : Option (SFloor × List SCart) := ocons r0 fun a0 r1 => onil r1 (obind (argV (T := T) 22 a0) fun code0 => spec_DrawFloor n code0)
def spec_DrawFloor_ent (n : Nat) : Ent T := ⟨42, 9, [], SFloor × List SCart, spec_DrawFloor_D n, spec_DrawFloor_enc⟩
def impl_in_D (n : Nat) (r0 : List (A T)) : Option Bool := ocons r0 fun a0 r1 => ocons r1 fun a1 r2 => ocons r2 fun a2 r3 => onil r3 (obind (argV (T := T) 3 a0) fun n0 => obind (argV (T := T) 3 a1) fun least1 => obind (argV (T := T) 3 a2) fun most2 => impl_in n n0 least1 most2)
def impl_in_ent (n : Nat) : Ent T := ⟨68, 10, [], Bool, impl_in_D n, impl_in_enc⟩
def impl_all_1_D (n : Nat) (r0 : List (A T)) : Option Bool := ocons r0 fun a0 r1 => ocons r1 fun a1 r2 => ocons r2 fun a2 r3 => onil r3 (obind (argV (T := T) 3 a0) fun n0 => obind (argP (T := T) 3 a1) fun a1 => obind (argP (T := T) 3 a2) fun a2 => impl_all_1 n n0 a1 a2)
def impl_all_1_ent (n : Nat) : Ent T := ⟨163, 11, [], Bool, impl_all_1_D n, impl_all_1_enc⟩
def slices_IndexFunc_int_int__impl_all_1_D (n : Nat) (ar : List (A T)) : Option Int := match ar with
  | [a0, .fn _ [k1_0, k1_1]] => obind (argV (T := T) 41 a0) fun s0 => obind (argP (T := T) 3 k1_0) fun f1c0 => obind (argP (T := T) 3 k1_1) fun f1c1 => slices_IndexFunc_int_int__impl_all_1 n s0 f1c0 f1c1
  | _ => none
def slices_IndexFunc_int_int__impl_all_1_ent (n : Nat) : Ent T := ⟨179, 12, [163], Int, slices_IndexFunc_int_int__impl_all_1_D n, slices_IndexFunc_int_int__impl_all_1_enc⟩
def slices_ContainsFunc_int_int__impl_all_1_D (n : Nat) (ar : List (A T)) : Option Bool := match ar with
  | [a0, .fn _ [k1_0, k1_1]] => obind (argV (T := T) 41 a0) fun s0 => obind (argP (T := T) 3 k1_0) fun f1c0 => obind (argP (T := T) 3 k1_1) fun f1c1 => slices_ContainsFunc_int_int__impl_all_1 n s0 f1c0 f1c1
  | _ => none
def slices_ContainsFunc_int_int__impl_all_1_ent (n : Nat) : Ent T := ⟨162, 13, [163], Bool, slices_ContainsFunc_int_int__impl_all_1_D n, slices_ContainsFunc_int_int__impl_all_1_enc⟩
def impl_all_D (n : Nat) (r0 : List (A T)) : Option Bool := ocons r0 fun a0 r1 => ocons r1 fun a1 r2 => ocons r2 fun a2 r3 => onil r3 (obind (argV (T := T) 41 a0) fun l0 => obind (argV (T := T) 3 a1) fun least1 => obind (argV (T := T) 3 a2) fun most2 => impl_all n l0 least1 most2)
def impl_all_ent (n : Nat) : Ent T := ⟨119, 14, [], Bool, impl_all_D n, impl_all_enc⟩
def impl_FloorOk_D (n : Nat) (r0 : List (A T)) : Option Bool := ocons r0 fun a0 r1 => onil r1 (obind (argV (T := T) 71 a0) fun f0 => impl_FloorOk n f0)
def impl_FloorOk_ent (n : Nat) : Ent T := ⟨43, 15, [], Bool, impl_FloorOk_D n, impl_FloorOk_enc⟩
def impl_Floor_place_D (n : Nat) (r0 : List (A T)) : Option Bool := ocons r0 fun a0 r1 => ocons r1 fun a1 r2 => onil r2 (obind (argV (T := T) 71 a0) fun f0 => obind (argV (T := T) 3 a1) fun p1 => impl_Floor_place n f0 p1)
def impl_Floor_place_ent (n : Nat) : Ent T := ⟨120, 16, [], Bool, impl_Floor_place_D n, impl_Floor_place_enc⟩
def impl_CartsOk_1_D (n : Nat) (r0 : List (A T)) : Option Bool := ocons r0 fun a0 r1 => ocons r1 fun a1 r2 => onil r2 (obind (argV (T := T) 81 a0) fun x0 => obind (argP (T := T) 81 a1) fun a1 => impl_CartsOk_1 n x0 a1)
def impl_CartsOk_1_ent (n : Nat) : Ent T := ⟨122, 17, [], Bool, impl_CartsOk_1_D n, impl_CartsOk_1_enc⟩
def slices_IndexFunc_impl_Cart_impl_Cart__impl_CartsOk_1_D (n : Nat) (ar : List (A T)) : Option Int := match ar with
  | [a0, .fn _ [k1_0]] => obind (argV (T := T) 72 a0) fun s0 => obind (argP (T := T) 81 k1_0) fun f1c0 => slices_IndexFunc_impl_Cart_impl_Cart__impl_CartsOk_1 n s0 f1c0
  | _ => none
def slices_IndexFunc_impl_Cart_impl_Cart__impl_CartsOk_1_ent (n : Nat) : Ent T := ⟨164, 18, [122], Int, slices_IndexFunc_impl_Cart_impl_Cart__impl_CartsOk_1_D n, slices_IndexFunc_impl_Cart_impl_Cart__impl_CartsOk_1_enc⟩
def slices_ContainsFunc_impl_Cart_impl_Cart__impl_CartsOk_1_D (n : Nat) (ar : List (A T)) : Option Bool := match ar with
  | [a0, .fn _ [k1_0]] => obind (argV (T := T) 72 a0) fun s0 => obind (argP (T := T) 81 k1_0) fun f1c0 => slices_ContainsFunc_impl_Cart_impl_Cart__impl_CartsOk_1 n s0 f1c0
  | _ => none
def slices_ContainsFunc_impl_Cart_impl_Cart__impl_CartsOk_1_ent (n : Nat) : Ent T := ⟨121, 19, [122], Bool, slices_ContainsFunc_impl_Cart_impl_Cart__impl_CartsOk_1_D n, slices_ContainsFunc_impl_Cart_impl_Cart__impl_CartsOk_1_enc⟩
def impl_CartsOk_D (n : Nat) (r0 : List (A T)) : Option Bool := ocons r0 fun a0 r1 => ocons r1 fun a1 r2 => onil r2 (obind (argV (T := T) 71 a0) fun f0 => obind (argV (T := T) 72 a1) fun carts1 => impl_CartsOk n f0 carts1)
def impl_CartsOk_ent (n : Nat) : Ent T := ⟨44, 20, [], Bool, impl_CartsOk_D n, impl_CartsOk_enc⟩
def impl_Floor_leads_D (n : Nat) (r0 : List (A T)) : Option (List Int) := ocons r0 fun a0 r1 => ocons r1 fun a1 r2 => onil r2 (obind (argV (T := T) 71 a0) fun f0 => obind (argV (T := T) 3 a1) fun p1 => impl_Floor_leads n f0 p1)
def impl_Floor_leads_ent (n : Nat) : Ent T := ⟨165, 21, [], List Int, impl_Floor_leads_D n, impl_Floor_leads_enc⟩
def impl_Hops_1_D (n : Nat) (r0 : List (A T)) : Option Bool := ocons r0 fun a0 r1 => ocons r1 fun a1 r2 => ocons r2 fun a2 r3 => onil r3 (obind (argV (T := T) 3 a0) fun q0 => obind (argP (T := T) 41 a1) fun a1 => obind (argP (T := T) 3 a2) fun a2 => impl_Hops_1 n q0 a1 a2)
def impl_Hops_1_ent (n : Nat) : Ent T := ⟨166, 22, [], Bool, impl_Hops_1_D n, impl_Hops_1_enc⟩
def slices_IndexFunc_int_int__impl_Hops_1_D (n : Nat) (ar : List (A T)) : Option Int := match ar with
  | [a0, .fn _ [k1_0, k1_1]] => obind (argV (T := T) 41 a0) fun s0 => obind (argP (T := T) 41 k1_0) fun f1c0 => obind (argP (T := T) 3 k1_1) fun f1c1 => slices_IndexFunc_int_int__impl_Hops_1 n s0 f1c0 f1c1
  | _ => none
def slices_IndexFunc_int_int__impl_Hops_1_ent (n : Nat) : Ent T := ⟨179, 23, [166], Int, slices_IndexFunc_int_int__impl_Hops_1_D n, slices_IndexFunc_int_int__impl_Hops_1_enc⟩
def slices_ContainsFunc_int_int__impl_Hops_1_D (n : Nat) (ar : List (A T)) : Option Bool := match ar with
  | [a0, .fn _ [k1_0, k1_1]] => obind (argV (T := T) 41 a0) fun s0 => obind (argP (T := T) 41 k1_0) fun f1c0 => obind (argP (T := T) 3 k1_1) fun f1c1 => slices_ContainsFunc_int_int__impl_Hops_1 n s0 f1c0 f1c1
  | _ => none
def slices_ContainsFunc_int_int__impl_Hops_1_ent (n : Nat) : Ent T := ⟨162, 24, [166], Bool, slices_ContainsFunc_int_int__impl_Hops_1_D n, slices_ContainsFunc_int_int__impl_Hops_1_enc⟩
def impl_Hops_D (n : Nat) (r0 : List (A T)) : Option (List Int × Bool) := ocons r0 fun a0 r1 => ocons r1 fun a1 r2 => onil r2 (obind (argV (T := T) 71 a0) fun f0 => obind (argV (T := T) 3 a1) fun goal1 => impl_Hops n f0 goal1)
def impl_Hops_ent (n : Nat) : Ent T := ⟨126, 25, [], List Int × Bool, impl_Hops_D n, impl_Hops_enc⟩
def impl_Floor_want_D (n : Nat) (r0 : List (A T)) : Option Int := ocons r0 fun a0 r1 => ocons r1 fun a1 r2 => onil r2 (obind (argV (T := T) 71 a0) fun f0 => obind (argV (T := T) 81 a1) fun c1 => impl_Floor_want n f0 c1)
def impl_Floor_want_ent (n : Nat) : Ent T := ⟨123, 26, [], Int, impl_Floor_want_D n, impl_Floor_want_enc⟩
def impl_Round_1_D (n : Nat) (r0 : List (A T)) : Option Bool := ocons r0 fun a0 r1 => ocons r1 fun a1 r2 => ocons r2 fun a2 r3 => onil r3 (obind (argV (T := T) 3 a0) fun i0 => obind (argP (T := T) 41 a1) fun a1 => obind (argP (T := T) 72 a2) fun a2 => impl_Round_1 n i0 a1 a2)
def impl_Round_1_ent (n : Nat) : Ent T := ⟨124, 27, [], Bool, impl_Round_1_D n, impl_Round_1_enc⟩
def impl_own_impl_Cart_D (n : Nat) (r0 : List (A T)) : Option (List SCart) := ocons r0 fun a0 r1 => onil r1 (obind (argV (T := T) 72 a0) fun l0 => impl_own_impl_Cart n l0)
def impl_own_impl_Cart_ent (n : Nat) : Ent T := ⟨125, 28, [], List SCart, impl_own_impl_Cart_D n, impl_own_impl_Cart_enc⟩
def impl_own_int_D (n : Nat) (r0 : List (A T)) : Option (List Int) := ocons r0 fun a0 r1 => onil r1 (obind (argV (T := T) 41 a0) fun l0 => impl_own_int n l0)
def impl_own_int_ent (n : Nat) : Ent T := ⟨99, 29, [], List Int, impl_own_int_D n, impl_own_int_enc⟩
def impl_Round_D (n : Nat) (r0 : List (A T)) : Option (List SCart × List Int × Bool) := ocons r0 fun a0 r1 => ocons r1 fun a1 r2 => onil r2 (obind (argV (T := T) 71 a0) fun f0 => obind (argV (T := T) 72 a1) fun carts1 => impl_Round n f0 carts1)
def impl_Round_ent (n : Nat) : Ent T := ⟨45, 30, [], List SCart × List Int × Bool, impl_Round_D n, impl_Round_enc⟩
def slices_Index_int_int_D (n : Nat) (r0 : List (A T)) : Option Int := ocons r0 fun a0 r1 => ocons r1 fun a1 r2 => onil r2 (obind (argV (T := T) 41 a0) fun s0 => obind (argV (T := T) 3 a1) fun v1 => slices_Index_int_int n s0 v1)
def slices_Index_int_int_ent (n : Nat) : Ent T := ⟨167, 31, [], Int, slices_Index_int_int_D n, slices_Index_int_int_enc⟩
def slices_Contains_int_int_D (n : Nat) (r0 : List (A T)) : Option Bool := ocons r0 fun a0 r1 => ocons r1 fun a1 r2 => onil r2 (obind (argV (T := T) 41 a0) fun s0 => obind (argV (T := T) 3 a1) fun v1 => slices_Contains_int_int n s0 v1)
def slices_Contains_int_int_ent (n : Nat) : Ent T := ⟨127, 32, [], Bool, slices_Contains_int_int_D n, slices_Contains_int_int_enc⟩
def impl_Stuck_D (n : Nat) (r0 : List (A T)) : Option (List Int × Bool) := ocons r0 fun a0 r1 => ocons r1 fun a1 r2 => onil r2 (obind (argV (T := T) 71 a0) fun f0 => obind (argV (T := T) 72 a1) fun carts1 => impl_Stuck n f0 carts1)
def impl_Stuck_ent (n : Nat) : Ent T := ⟨46, 33, [], List Int × Bool, impl_Stuck_D n, impl_Stuck_enc⟩
def laws_within_D (n : Nat) (r0 : List (A T)) : Option Bool := ocons r0 fun a0 r1 => ocons r1 fun a1 r2 => onil r2 (obind (argV (T := T) 41 a0) fun list0 => obind (argV (T := T) 3 a1) fun x1 => laws_within n list0 x1)
def laws_within_ent (n : Nat) : Ent T := ⟨47, 34, [], Bool, laws_within_D n, laws_within_enc⟩
def spec_l3All_D (n : Nat) (r0 : List (A T)) : Option Bool := ocons r0 fun a0 r1 => ocons r1 fun a1 r2 => ocons r2 fun a2 r3 => onil r3 (obind (argV (T := T) 41 a0) fun list0 => obind (argV (T := T) 3 a1) fun a1 => obind (argV (T := T) 3 a2) fun b2 => spec_l3All n list0 a1 b2)
def spec_l3All_ent (n : Nat) : Ent T := ⟨168, 35, [], Bool, spec_l3All_D n, spec_l3All_enc⟩
def spec_FloorOk_D (n : Nat) (r0 : List (A T)) : Option Bool := ocons r0 fun a0 r1 => onil r1 (obind (argV (T := T) 71 a0) fun f0 => spec_FloorOk n f0)
def spec_FloorOk_ent (n : Nat) : Ent T := ⟨128, 36, [], Bool, spec_FloorOk_D n, spec_FloorOk_enc⟩
def spec_l19Next_D (n : Nat) (r0 : List (A T)) : Option Int := ocons r0 fun a0 r1 => ocons r1 fun a1 r2 => ocons r2 fun a2 r3 => onil r3 (obind (argV (T := T) 71 a0) fun f0 => obind (argV (T := T) 3 a1) fun p1 => obind (argV (T := T) 3 a2) fun bit2 => spec_l19Next n f0 p1 bit2)
def spec_l19Next_ent (n : Nat) : Ent T := ⟨129, 37, [], Int, spec_l19Next_D n, spec_l19Next_enc⟩
def spec_Hops_D (n : Nat) (r0 : List (A T)) : Option (List Int × Bool) := ocons r0 fun a0 r1 => ocons r1 fun a1 r2 => onil r2 (obind (argV (T := T) 71 a0) fun f0 => obind (argV (T := T) 3 a1) fun goal1 => spec_Hops n f0 goal1)
def spec_Hops_ent (n : Nat) : Ent T := ⟨48, 38, [], List Int × Bool, spec_Hops_D n, spec_Hops_enc⟩
def impl_Settle19_1_D (n : Nat) (r0 : List (A T)) : Option Bool := ocons r0 fun a0 r1 => onil r1 (obind (argV (T := T) 81 a0) fun c0 => impl_Settle19_1 n c0)
def impl_Settle19_1_ent (n : Nat) : Ent T := ⟨130, 39, [], Bool, impl_Settle19_1_D n, impl_Settle19_1_enc⟩
def slices_IndexFunc_impl_Cart_impl_Cart__impl_Settle19_1_D (n : Nat) (ar : List (A T)) : Option Int := match ar with
  | [a0, .fn _ []] => obind (argV (T := T) 72 a0) fun s0 => slices_IndexFunc_impl_Cart_impl_Cart__impl_Settle19_1 n s0
  | _ => none
def slices_IndexFunc_impl_Cart_impl_Cart__impl_Settle19_1_ent (n : Nat) : Ent T := ⟨164, 40, [130], Int, slices_IndexFunc_impl_Cart_impl_Cart__impl_Settle19_1_D n, slices_IndexFunc_impl_Cart_impl_Cart__impl_Settle19_1_enc⟩
def slices_ContainsFunc_impl_Cart_impl_Cart__impl_Settle19_1_D (n : Nat) (ar : List (A T)) : Option Bool := match ar with
  | [a0, .fn _ []] => obind (argV (T := T) 72 a0) fun s0 => slices_ContainsFunc_impl_Cart_impl_Cart__impl_Settle19_1 n s0
  | _ => none
def slices_ContainsFunc_impl_Cart_impl_Cart__impl_Settle19_1_ent (n : Nat) : Ent T := ⟨121, 41, [130], Bool, slices_ContainsFunc_impl_Cart_impl_Cart__impl_Settle19_1_D n, slices_ContainsFunc_impl_Cart_impl_Cart__impl_Settle19_1_enc⟩
def impl_Settle19_D (n : Nat) (r0 : List (A T)) : Option (List SCart × Int × Bool) := ocons r0 fun a0 r1 => ocons r1 fun a1 r2 => ocons r2 fun a2 r3 => onil r3 (obind (argV (T := T) 71 a0) fun f0 => obind (argV (T := T) 72 a1) fun carts1 => obind (argV (T := T) 3 a2) fun rounds2 => impl_Settle19 n f0 carts1 rounds2)
def impl_Settle19_ent (n : Nat) : Ent T := ⟨49, 42, [], List SCart × Int × Bool, impl_Settle19_D n, impl_Settle19_enc⟩
def laws_FnRounds_D (n : Nat) (r0 : List (A T)) : Option Bool := ocons r0 fun a0 r1 => onil r1 (obind (argV (T := T) 22 a0) fun code0 => laws_FnRounds n code0)
def laws_FnRounds_ent (n : Nat) : Ent T := ⟨8, 43, [], Bool, laws_FnRounds_D n, laws_FnRounds_enc⟩
def ents (n : Nat) : List (Ent T) := [laws_big_ent n, spec_l1New_ent n, spec_l1Byte_ent n, spec_l1Below_ent n, spec_l1In_ent n, spec_OneWay_ent n, spec_l1Once_ent n, spec_l19Draw_ent n, spec_l19DrawCarts_ent n, spec_DrawFloor_ent n, impl_in_ent n, impl_all_1_ent n, slices_IndexFunc_int_int__impl_all_1_ent n, slices_ContainsFunc_int_int__impl_all_1_ent n, impl_all_ent n, impl_FloorOk_ent n, impl_Floor_place_ent n, impl_CartsOk_1_ent n, slices_IndexFunc_impl_Cart_impl_Cart__impl_CartsOk_1_ent n, slices_ContainsFunc_impl_Cart_impl_Cart__impl_CartsOk_1_ent n, impl_CartsOk_ent n, impl_Floor_leads_ent n, impl_Hops_1_ent n, slices_IndexFunc_int_int__impl_Hops_1_ent n, slices_ContainsFunc_int_int__impl_Hops_1_ent n, impl_Hops_ent n, impl_Floor_want_ent n, impl_Round_1_ent n, impl_own_impl_Cart_ent n, impl_own_int_ent n, impl_Round_ent n, slices_Index_int_int_ent n, slices_Contains_int_int_ent n, impl_Stuck_ent n, laws_within_ent n, spec_l3All_ent n, spec_FloorOk_ent n, spec_l19Next_ent n, spec_Hops_ent n, impl_Settle19_1_ent n, slices_IndexFunc_impl_Cart_impl_Cart__impl_Settle19_1_ent n, slices_ContainsFunc_impl_Cart_impl_Cart__impl_Settle19_1_ent n, impl_Settle19_ent n, laws_FnRounds_ent n]
abbrev Phi (n i : Nat) {R : Type} (f : Nat) (ar : List (A T)) (K : Res T → Option R) : Option R := PhiE (ents n) i f ar K
theorem mixed : Try.prog.follows .mixedOrders = true := by kernel_rfl
noncomputable def laws_big_code : Code := match Try.f12.body with | some c => c | none => .skip
def laws_big_ann : Ann := fun id => none
def laws_big_Ls (n : Nat) : Nat → Option (LSpec T) := fun id => none
theorem laws_big_tie (n : Nat) (code0 : List Int) : evF (T := T) (Phi n 0) (laws_big_Ls n) laws_big_ann n Try.f12 (sg 12) [vA T 22 code0] laws_big_dec = laws_big n code0 := by kernel_rfl
theorem laws_big_lo (n : Nat) : LoopsOk (T := T) (Phi n 0) (laws_big_Ls n) laws_big_ann n laws_big_code := loopsOk_all (cs := []) (by kernel_rfl) trivial
theorem laws_big_ok (n : Nat) : EntOk Try.prog (ents n) (laws_big_ent n) := by
  intro hs ar y hg h
  replace h : laws_big_D n ar = some y := h
  unfold laws_big_D at h
  replace h := ocons_some h
  obtain ⟨a0, r0, rfl, h⟩ := h
  replace h := onil_some h
  obtain ⟨rfl, h⟩ := h
  obtain ⟨code0, qh0, h⟩ := obind_some h
  rw [argV_eq ok qh0]
  exact call_of (phiE_nat _ _) hs ok mixed Try.func12 (c := laws_big_code) (by kernel_rfl) (laws_big_lo n) (by kernel_rfl) (by kernel_rfl) (by kernel_rfl) laws_big_de ((laws_big_tie n code0).trans h)
noncomputable def spec_l1New_code : Code := match Try.f65.body with | some c => c | none => .skip
def spec_l1New_3_sv : List Sv := [.one (.arr 5), .one (.int .i64), .one (.int .i64)]
def spec_l1New_3_so : List So := []
def spec_l1New_3_emb (c : List Int) (x : Int × Int) : EVs T spec_l1New_3_sv × EOs T spec_l1New_3_so := ((c, x.1, x.2, ()), ())
def spec_l1New_3_prj (y : EVs T spec_l1New_3_sv × EOs T spec_l1New_3_so) : List Int × (Int × Int) := ((y.1.1), (y.1.2.1, y.1.2.2.1))
def spec_l1New_3_b (n : Nat) {R : Type} (K : Ex → Sm.St T → Option R) (c : List Int) (x : Int × Int) (J : (Int × Int) → Option R) : Option R :=
  spec_l1New_L3 n (fun (y1 : Int) => K (.exit 0) (stOf (T := T) [0, 3] [] [.one (.arr 5), .one (.int .i64)] [] (c, y1, ()) ())) (fun z0 z1 => J (z0, z1)) c x.1 x.2
def spec_l1New_3_sp (n : Nat) : LSpec T := mkSpec T ⟨[], [0, 3, 4], []⟩ spec_l1New_3_sv spec_l1New_3_so (List Int) (Int × Int) spec_l1New_3_emb spec_l1New_3_prj (spec_l1New_3_b n)
noncomputable def spec_l1New_3_c : Code := ((loopCodes spec_l1New_code)[0]?).getD .skip
def spec_l1New_ann : Ann := fun id => bif Nat.beq id 3000003 then some ⟨[], [0, 3], []⟩ else none
def spec_l1New_Ls (n : Nat) : Nat → Option (LSpec T) := fun id => bif Nat.beq id 3 then some (spec_l1New_3_sp n) else none
theorem spec_l1New_3_le (n : Nat) : LoopEq (T := T) (Phi n 1) (spec_l1New_Ls n) spec_l1New_ann n spec_l1New_3_c (spec_l1New_3_sp n) := ⟨mkSpec_dec (fun y => rfl), fun c x => by kernel_rfl, fun K J c x => by kernel_rfl⟩
theorem spec_l1New_tie (n : Nat) (code0 : List Int) : evF (T := T) (Phi n 1) (spec_l1New_Ls n) spec_l1New_ann n Try.f65 (sg 65) [vA T 22 code0] spec_l1New_dec = spec_l1New n code0 := by kernel_rfl
theorem spec_l1New_lo (n : Nat) : LoopsOk (T := T) (Phi n 1) (spec_l1New_Ls n) spec_l1New_ann n spec_l1New_code := loopsOk_all (cs := [spec_l1New_3_c]) (by kernel_rfl) ⟨⟨_, by kernel_rfl, spec_l1New_3_le n⟩, trivial⟩
theorem spec_l1New_ok (n : Nat) : EntOk Try.prog (ents n) (spec_l1New_ent n) := by
  intro hs ar y hg h
  replace h : spec_l1New_D n ar = some y := h
  unfold spec_l1New_D at h
  replace h := ocons_some h
  obtain ⟨a0, r0, rfl, h⟩ := h
  replace h := onil_some h
  obtain ⟨rfl, h⟩ := h
  obtain ⟨code0, qh0, h⟩ := obind_some h
  rw [argV_eq ok qh0]
  exact call_of (phiE_nat _ _) hs ok mixed Try.func65 (c := spec_l1New_code) (by kernel_rfl) (spec_l1New_lo n) (by kernel_rfl) (by kernel_rfl) (by kernel_rfl) spec_l1New_de ((spec_l1New_tie n code0).trans h)
noncomputable def spec_l1Byte_code : Code := match Try.f143.body with | some c => c | none => .skip
def spec_l1Byte_ann : Ann := fun id => none
def spec_l1Byte_Ls (n : Nat) : Nat → Option (LSpec T) := fun id => none
theorem spec_l1Byte_tie (n : Nat) (c0 : Sl1Cur) : evF (T := T) (Phi n 2) (spec_l1Byte_Ls n) spec_l1Byte_ann n Try.f143 (sg 143) [.ptr 160 c0] spec_l1Byte_dec = spec_l1Byte n c0 := by kernel_rfl
theorem spec_l1Byte_lo (n : Nat) : LoopsOk (T := T) (Phi n 2) (spec_l1Byte_Ls n) spec_l1Byte_ann n spec_l1Byte_code := loopsOk_all (cs := []) (by kernel_rfl) trivial
theorem spec_l1Byte_ok (n : Nat) : EntOk Try.prog (ents n) (spec_l1Byte_ent n) := by
  intro hs ar y hg h
  replace h : spec_l1Byte_D n ar = some y := h
  unfold spec_l1Byte_D at h
  replace h := ocons_some h
  obtain ⟨a0, r0, rfl, h⟩ := h
  replace h := onil_some h
  obtain ⟨rfl, h⟩ := h
  obtain ⟨c0, qh0, h⟩ := obind_some h
  rw [argP_eq qh0]
  exact call_of (phiE_nat _ _) hs ok mixed Try.func143 (c := spec_l1Byte_code) (by kernel_rfl) (spec_l1Byte_lo n) (by kernel_rfl) (by kernel_rfl) (by kernel_rfl) spec_l1Byte_de ((spec_l1Byte_tie n c0).trans h)
noncomputable def spec_l1Below_code : Code := match Try.f76.body with | some c => c | none => .skip
def spec_l1Below_ann : Ann := fun id => none
def spec_l1Below_Ls (n : Nat) : Nat → Option (LSpec T) := fun id => none
theorem spec_l1Below_tie (n : Nat) (c0 : Sl1Cur) (n1 : Int) : evF (T := T) (Phi n 3) (spec_l1Below_Ls n) spec_l1Below_ann n Try.f76 (sg 76) [.ptr 160 c0, vA T 3 n1] spec_l1Below_dec = spec_l1Below n c0 n1 := by kernel_rfl
theorem spec_l1Below_lo (n : Nat) : LoopsOk (T := T) (Phi n 3) (spec_l1Below_Ls n) spec_l1Below_ann n spec_l1Below_code := loopsOk_all (cs := []) (by kernel_rfl) trivial
theorem spec_l1Below_ok (n : Nat) : EntOk Try.prog (ents n) (spec_l1Below_ent n) := by
  intro hs ar y hg h
  replace h : spec_l1Below_D n ar = some y := h
  unfold spec_l1Below_D at h
  replace h := ocons_some h
  obtain ⟨a0, r0, rfl, h⟩ := h
  replace h := ocons_some h
  obtain ⟨a1, r1, rfl, h⟩ := h
  replace h := onil_some h
  obtain ⟨rfl, h⟩ := h
  obtain ⟨c0, qh0, h⟩ := obind_some h
  obtain ⟨n1, qh1, h⟩ := obind_some h
  rw [argP_eq qh0, argV_eq ok qh1]
  exact call_of (phiE_nat _ _) hs ok mixed Try.func76 (c := spec_l1Below_code) (by kernel_rfl) (spec_l1Below_lo n) (by kernel_rfl) (by kernel_rfl) (by kernel_rfl) spec_l1Below_de ((spec_l1Below_tie n c0 n1).trans h)
noncomputable def spec_l1In_code : Code := match Try.f71.body with | some c => c | none => .skip
def spec_l1In_ann : Ann := fun id => none
def spec_l1In_Ls (n : Nat) : Nat → Option (LSpec T) := fun id => none
theorem spec_l1In_tie (n : Nat) (x0 : Int) (a1 : Int) (b2 : Int) : evF (T := T) (Phi n 4) (spec_l1In_Ls n) spec_l1In_ann n Try.f71 (sg 71) [vA T 3 x0, vA T 3 a1, vA T 3 b2] spec_l1In_dec = spec_l1In n x0 a1 b2 := by kernel_rfl
theorem spec_l1In_lo (n : Nat) : LoopsOk (T := T) (Phi n 4) (spec_l1In_Ls n) spec_l1In_ann n spec_l1In_code := loopsOk_all (cs := []) (by kernel_rfl) trivial
theorem spec_l1In_ok (n : Nat) : EntOk Try.prog (ents n) (spec_l1In_ent n) := by
  intro hs ar y hg h
  replace h : spec_l1In_D n ar = some y := h
  unfold spec_l1In_D at h
  replace h := ocons_some h
  obtain ⟨a0, r0, rfl, h⟩ := h
  replace h := ocons_some h
  obtain ⟨a1, r1, rfl, h⟩ := h
  replace h := ocons_some h
  obtain ⟨a2, r2, rfl, h⟩ := h
  replace h := onil_some h
  obtain ⟨rfl, h⟩ := h
  obtain ⟨x0, qh0, h⟩ := obind_some h
  obtain ⟨a1, qh1, h⟩ := obind_some h
  obtain ⟨b2, qh2, h⟩ := obind_some h
  rw [argV_eq ok qh0, argV_eq ok qh1, argV_eq ok qh2]
  exact call_of (phiE_nat _ _) hs ok mixed Try.func71 (c := spec_l1In_code) (by kernel_rfl) (spec_l1In_lo n) (by kernel_rfl) (by kernel_rfl) (by kernel_rfl) spec_l1In_de ((spec_l1In_tie n x0 a1 b2).trans h)
noncomputable def spec_OneWay_code : Code := match Try.f161.body with | some c => c | none => .skip
def spec_OneWay_5_sv : List Sv := [.one (.int .i64), .one (.int .i64), .one (.ptr 32 0 0), .one (.ptr 48 0 0), .one (.int .i64)]
def spec_OneWay_5_so : List So := [.var [.int .i64, .int .i64, .own 3000000 3 false], .arr 3 false, .var [.int .i64, .int .i64, .own 3000001 3 false], .arr 3 false]
def spec_OneWay_5_emb (c : Int × Int × Int × Int × List Int × Int × Int) (x : Int × List Int) : EVs T spec_OneWay_5_sv × EOs T spec_OneWay_5_so := ((c.1, c.2.1, (), (), x.1, ()), ((c.2.2.1, c.2.2.2.1, (), ()), c.2.2.2.2.1, (c.2.2.2.2.2.1, c.2.2.2.2.2.2, (), ()), x.2, ()))
def spec_OneWay_5_prj (y : EVs T spec_OneWay_5_sv × EOs T spec_OneWay_5_so) : (Int × Int × Int × Int × List Int × Int × Int) × (Int × List Int) := ((y.1.1, y.1.2.1, y.2.1.1, y.2.1.2.1, y.2.2.1, y.2.2.2.1.1, y.2.2.2.1.2.1), (y.1.2.2.2.2.1, y.2.2.2.2.1))
def spec_OneWay_5_b (n : Nat) {R : Type} (K : Ex → Sm.St T → Option R) (c : Int × Int × Int × Int × List Int × Int × Int) (x : Int × List Int) (J : (Int × List Int) → Option R) : Option R :=
  spec_OneWay_L5 n (fun (y5 : List Int) => K (.exit 0) (stOf (T := T) [4, 6] [32, 3000000, 48, 3000001] [.one (.ptr 32 0 0), .one (.ptr 48 0 0)] [.var [.int .i64, .int .i64, .own 3000000 3 false], .arr 3 false, .var [.int .i64, .int .i64, .own 3000001 3 false], .arr 3 false] ((), (), ()) ((c.2.2.1, c.2.2.2.1, (), ()), c.2.2.2.2.1, (c.2.2.2.2.2.1, c.2.2.2.2.2.2, (), ()), y5, ()))) (fun z0 z1 => J (z0, z1)) c.1 c.2.1 x.1 c.2.2.1 c.2.2.2.1 c.2.2.2.2.1 c.2.2.2.2.2.1 c.2.2.2.2.2.2 x.2
def spec_OneWay_5_sp (n : Nat) : LSpec T := mkSpec T ⟨[((.cell 32 2), 3000000, 3), ((.cell 48 2), 3000001, 3)], [0, 1, 4, 6, 7], [32, 3000000, 48, 3000001]⟩ spec_OneWay_5_sv spec_OneWay_5_so (Int × Int × Int × Int × List Int × Int × Int) (Int × List Int) spec_OneWay_5_emb spec_OneWay_5_prj (spec_OneWay_5_b n)
noncomputable def spec_OneWay_5_c : Code := ((loopCodes spec_OneWay_code)[0]?).getD .skip
def spec_OneWay_8_sv : List Sv := [.one (.int .i64), .one (.int .i64), .one (.ptr 32 0 0), .one (.ptr 48 0 0), .one (.int .i64), .one (.int .i64)]
def spec_OneWay_8_so : List So := [.var [.int .i64, .int .i64, .own 3000000 3 false], .arr 3 false, .var [.int .i64, .int .i64, .own 3000001 3 false], .arr 3 false]
def spec_OneWay_8_emb (c : Int × Int × Int × Int × Int × List Int × Int × Int) (x : Int × List Int) : EVs T spec_OneWay_8_sv × EOs T spec_OneWay_8_so := ((c.1, c.2.1, (), (), c.2.2.1, x.1, ()), ((c.2.2.2.1, c.2.2.2.2.1, (), ()), c.2.2.2.2.2.1, (c.2.2.2.2.2.2.1, c.2.2.2.2.2.2.2, (), ()), x.2, ()))
def spec_OneWay_8_prj (y : EVs T spec_OneWay_8_sv × EOs T spec_OneWay_8_so) : (Int × Int × Int × Int × Int × List Int × Int × Int) × (Int × List Int) := ((y.1.1, y.1.2.1, y.1.2.2.2.2.1, y.2.1.1, y.2.1.2.1, y.2.2.1, y.2.2.2.1.1, y.2.2.2.1.2.1), (y.1.2.2.2.2.2.1, y.2.2.2.2.1))
def spec_OneWay_8_b (n : Nat) {R : Type} (K : Ex → Sm.St T → Option R) (c : Int × Int × Int × Int × Int × List Int × Int × Int) (x : Int × List Int) (J : (Int × List Int) → Option R) : Option R :=
  spec_OneWay_L8 n (fun (y8 : List Int) => K (.exit 2) (stOf (T := T) [0, 1, 4, 6, 7] [32, 3000000, 48, 3000001] [.one (.int .i64), .one (.int .i64), .one (.ptr 32 0 0), .one (.ptr 48 0 0), .one (.int .i64)] [.var [.int .i64, .int .i64, .own 3000000 3 false], .arr 3 false, .var [.int .i64, .int .i64, .own 3000001 3 false], .arr 3 false] (c.1, c.2.1, (), (), c.2.2.1, ()) ((c.2.2.2.1, c.2.2.2.2.1, (), ()), c.2.2.2.2.2.1, (c.2.2.2.2.2.2.1, c.2.2.2.2.2.2.2, (), ()), y8, ()))) (fun z0 z1 => J (z0, z1)) c.1 c.2.1 c.2.2.1 x.1 c.2.2.2.1 c.2.2.2.2.1 c.2.2.2.2.2.1 c.2.2.2.2.2.2.1 c.2.2.2.2.2.2.2 x.2
def spec_OneWay_8_sp (n : Nat) : LSpec T := mkSpec T ⟨[((.cell 32 2), 3000000, 3), ((.cell 48 2), 3000001, 3)], [0, 1, 4, 6, 7, 8], [32, 3000000, 48, 3000001]⟩ spec_OneWay_8_sv spec_OneWay_8_so (Int × Int × Int × Int × Int × List Int × Int × Int) (Int × List Int) spec_OneWay_8_emb spec_OneWay_8_prj (spec_OneWay_8_b n)
noncomputable def spec_OneWay_8_c : Code := ((loopCodes spec_OneWay_code)[1]?).getD .skip
def spec_OneWay_ann : Ann := fun id => bif Nat.beq id 3000005 then some ⟨[((.cell 32 2), 3000000, 3), ((.cell 48 2), 3000001, 3)], [4, 6], [32, 3000000, 48, 3000001]⟩ else bif Nat.beq id 5000008 then some ⟨[((.cell 32 2), 3000000, 3), ((.cell 48 2), 3000001, 3)], [0, 1, 4, 6, 7], [32, 3000000, 48, 3000001]⟩ else none
def spec_OneWay_Ls (n : Nat) : Nat → Option (LSpec T) := fun id => bif Nat.beq id 5 then some (spec_OneWay_5_sp n) else bif Nat.beq id 8 then some (spec_OneWay_8_sp n) else none
theorem spec_OneWay_5_le (n : Nat) : LoopEq (T := T) (Phi n 5) (spec_OneWay_Ls n) spec_OneWay_ann n spec_OneWay_5_c (spec_OneWay_5_sp n) := ⟨mkSpec_dec (fun y => rfl), fun c x => by kernel_rfl, fun K J c x => by kernel_rfl⟩
theorem spec_OneWay_8_le (n : Nat) : LoopEq (T := T) (Phi n 5) (spec_OneWay_Ls n) spec_OneWay_ann n spec_OneWay_8_c (spec_OneWay_8_sp n) := ⟨mkSpec_dec (fun y => rfl), fun c x => by kernel_rfl, fun K J c x => by kernel_rfl⟩
theorem spec_OneWay_tie (n : Nat) (wide0 : Int) (high1 : Int) : evF (T := T) (Phi n 5) (spec_OneWay_Ls n) spec_OneWay_ann n Try.f161 (sg 161) [vA T 3 wide0, vA T 3 high1] spec_OneWay_dec = spec_OneWay n wide0 high1 := by kernel_rfl
theorem spec_OneWay_lo (n : Nat) : LoopsOk (T := T) (Phi n 5) (spec_OneWay_Ls n) spec_OneWay_ann n spec_OneWay_code := loopsOk_all (cs := [spec_OneWay_5_c, spec_OneWay_8_c]) (by kernel_rfl) ⟨⟨_, by kernel_rfl, spec_OneWay_5_le n⟩, ⟨_, by kernel_rfl, spec_OneWay_8_le n⟩, trivial⟩
theorem spec_OneWay_ok (n : Nat) : EntOk Try.prog (ents n) (spec_OneWay_ent n) := by
  intro hs ar y hg h
  replace h : spec_OneWay_D n ar = some y := h
  unfold spec_OneWay_D at h
  replace h := ocons_some h
  obtain ⟨a0, r0, rfl, h⟩ := h
  replace h := ocons_some h
  obtain ⟨a1, r1, rfl, h⟩ := h
  replace h := onil_some h
  obtain ⟨rfl, h⟩ := h
  obtain ⟨wide0, qh0, h⟩ := obind_some h
  obtain ⟨high1, qh1, h⟩ := obind_some h
  rw [argV_eq ok qh0, argV_eq ok qh1]
  exact call_of (phiE_nat _ _) hs ok mixed Try.func161 (c := spec_OneWay_code) (by kernel_rfl) (spec_OneWay_lo n) (by kernel_rfl) (by kernel_rfl) (by kernel_rfl) spec_OneWay_de ((spec_OneWay_tie n wide0 high1).trans h)
noncomputable def spec_l1Once_code : Code := match Try.f78.body with | some c => c | none => .skip
def spec_l1Once_ann : Ann := fun id => none
def spec_l1Once_Ls (n : Nat) : Nat → Option (LSpec T) := fun id => none
theorem spec_l1Once_tie (n : Nat) (c0 : Sl1Cur) (n1 : Int) : evF (T := T) (Phi n 6) (spec_l1Once_Ls n) spec_l1Once_ann n Try.f78 (sg 78) [.ptr 160 c0, vA T 3 n1] spec_l1Once_dec = spec_l1Once n c0 n1 := by kernel_rfl
theorem spec_l1Once_lo (n : Nat) : LoopsOk (T := T) (Phi n 6) (spec_l1Once_Ls n) spec_l1Once_ann n spec_l1Once_code := loopsOk_all (cs := []) (by kernel_rfl) trivial
theorem spec_l1Once_ok (n : Nat) : EntOk Try.prog (ents n) (spec_l1Once_ent n) := by
  intro hs ar y hg h
  replace h : spec_l1Once_D n ar = some y := h
  unfold spec_l1Once_D at h
  replace h := ocons_some h
  obtain ⟨a0, r0, rfl, h⟩ := h
  replace h := ocons_some h
  obtain ⟨a1, r1, rfl, h⟩ := h
  replace h := onil_some h
  obtain ⟨rfl, h⟩ := h
  obtain ⟨c0, qh0, h⟩ := obind_some h
  obtain ⟨n1, qh1, h⟩ := obind_some h
  rw [argP_eq qh0, argV_eq ok qh1]
  exact call_of (phiE_nat _ _) hs ok mixed Try.func78 (c := spec_l1Once_code) (by kernel_rfl) (spec_l1Once_lo n) (by kernel_rfl) (by kernel_rfl) (by kernel_rfl) spec_l1Once_de ((spec_l1Once_tie n c0 n1).trans h)
noncomputable def spec_l19Draw_code : Code := match Try.f117.body with | some c => c | none => .skip
def spec_l19Draw_7_sv : List Sv := [.one (.ptr 4503599627370496 0 0), .one (.ptr 16 0 0), .one (.ptr 24 0 0), .one (.int .i64)]
def spec_l19Draw_7_so : List So := [.var [.arr 5, .int .i64, .int .i64], .var [.int .i64, .int .i64, .own 3000000 3 false], .arr 3 false, .var [.int .i64, .int .i64, .own 3000001 3 false], .arr 3 false]
def spec_l19Draw_7_emb (c : Int × Int × List Int × Int × Int) (x : Int × Sl1Cur × List Int) : EVs T spec_l19Draw_7_sv × EOs T spec_l19Draw_7_so := (((), (), (), x.1, ()), ((x.2.1.b, x.2.1.i, x.2.1.h, ()), (c.1, c.2.1, (), ()), c.2.2.1, (c.2.2.2.1, c.2.2.2.2, (), ()), x.2.2, ()))
def spec_l19Draw_7_prj (y : EVs T spec_l19Draw_7_sv × EOs T spec_l19Draw_7_so) : (Int × Int × List Int × Int × Int) × (Int × Sl1Cur × List Int) := ((y.2.2.1.1, y.2.2.1.2.1, y.2.2.2.1, y.2.2.2.2.1.1, y.2.2.2.2.1.2.1), (y.1.2.2.2.1, ((⟨y.2.1.1, y.2.1.2.1, y.2.1.2.2.1⟩ : Sl1Cur) : Sl1Cur), y.2.2.2.2.2.1))
def spec_l19Draw_7_b (n : Nat) {R : Type} (K : Ex → Sm.St T → Option R) (c : Int × Int × List Int × Int × Int) (x : Int × Sl1Cur × List Int) (J : (Int × Sl1Cur × List Int) → Option R) : Option R :=
  spec_l19Draw_L7 n (fun (y5 : List Int) (y6 : Sl1Cur) => K (.exit 0) (stOf (T := T) [2, 3] [16, 3000000, 24, 3000001, 4503599627370496] [.one (.ptr 16 0 0), .one (.ptr 24 0 0)] [.var [.int .i64, .int .i64, .own 3000000 3 false], .arr 3 false, .var [.int .i64, .int .i64, .own 3000001 3 false], .arr 3 false, .var [.arr 5, .int .i64, .int .i64]] ((), (), ()) ((c.1, c.2.1, (), ()), c.2.2.1, (c.2.2.2.1, c.2.2.2.2, (), ()), y5, (y6.b, y6.i, y6.h, ()), ()))) (fun z0 z1 z2 => J (z0, z1, z2)) x.1 x.2.1 c.1 c.2.1 c.2.2.1 c.2.2.2.1 c.2.2.2.2 x.2.2
def spec_l19Draw_7_sp (n : Nat) : LSpec T := mkSpec T ⟨[((.cell 16 2), 3000000, 3), ((.cell 24 2), 3000001, 3)], [0, 2, 3, 5], [4503599627370496, 16, 3000000, 24, 3000001]⟩ spec_l19Draw_7_sv spec_l19Draw_7_so (Int × Int × List Int × Int × Int) (Int × Sl1Cur × List Int) spec_l19Draw_7_emb spec_l19Draw_7_prj (spec_l19Draw_7_b n)
noncomputable def spec_l19Draw_7_c : Code := ((loopCodes spec_l19Draw_code)[0]?).getD .skip
def spec_l19Draw_ann : Ann := fun id => bif Nat.beq id 3000007 then some ⟨[((.cell 16 2), 3000000, 3), ((.cell 24 2), 3000001, 3)], [2, 3], [16, 3000000, 24, 3000001, 4503599627370496]⟩ else none
def spec_l19Draw_Ls (n : Nat) : Nat → Option (LSpec T) := fun id => bif Nat.beq id 7 then some (spec_l19Draw_7_sp n) else none
theorem spec_l19Draw_7_le (n : Nat) : LoopEq (T := T) (Phi n 7) (spec_l19Draw_Ls n) spec_l19Draw_ann n spec_l19Draw_7_c (spec_l19Draw_7_sp n) := ⟨mkSpec_dec (fun y => rfl), fun c x => by kernel_rfl, fun K J c x => by kernel_rfl⟩
theorem spec_l19Draw_tie (n : Nat) (c0 : Sl1Cur) : evF (T := T) (Phi n 7) (spec_l19Draw_Ls n) spec_l19Draw_ann n Try.f117 (sg 117) [.ptr 160 c0] spec_l19Draw_dec = spec_l19Draw n c0 := by kernel_rfl
theorem spec_l19Draw_lo (n : Nat) : LoopsOk (T := T) (Phi n 7) (spec_l19Draw_Ls n) spec_l19Draw_ann n spec_l19Draw_code := loopsOk_all (cs := [spec_l19Draw_7_c]) (by kernel_rfl) ⟨⟨_, by kernel_rfl, spec_l19Draw_7_le n⟩, trivial⟩
theorem spec_l19Draw_ok (n : Nat) : EntOk Try.prog (ents n) (spec_l19Draw_ent n) := by
  intro hs ar y hg h
  replace h : spec_l19Draw_D n ar = some y := h
  unfold spec_l19Draw_D at h
  replace h := ocons_some h
  obtain ⟨a0, r0, rfl, h⟩ := h
  replace h := onil_some h
  obtain ⟨rfl, h⟩ := h
  obtain ⟨c0, qh0, h⟩ := obind_some h
  rw [argP_eq qh0]
  exact call_of (phiE_nat _ _) hs ok mixed Try.func117 (c := spec_l19Draw_code) (by kernel_rfl) (spec_l19Draw_lo n) (by kernel_rfl) (by kernel_rfl) (by kernel_rfl) spec_l19Draw_de ((spec_l19Draw_tie n c0).trans h)
noncomputable def spec_l19DrawCarts_code : Code := match Try.f118.body with | some c => c | none => .skip
def spec_l19DrawCarts_3_sv : List Sv := [.one (.ptr 4503599627370496 0 0), .one (.ptr 24 0 0), .one (.own 3000000 81 false), .one (.int .i64)]
def spec_l19DrawCarts_3_so : List So := [.var [.arr 5, .int .i64, .int .i64], .var [.int .i64, .int .i64, .arr 3], .arr 81 false]
def spec_l19DrawCarts_3_emb (c : SFloor) (x : Int × Sl1Cur × List SCart) : EVs T spec_l19DrawCarts_3_sv × EOs T spec_l19DrawCarts_3_so := (((), (), (), x.1, ()), ((x.2.1.b, x.2.1.i, x.2.1.h, ()), (c.Wide, c.High, c.Ways, ()), x.2.2, ()))
def spec_l19DrawCarts_3_prj (y : EVs T spec_l19DrawCarts_3_sv × EOs T spec_l19DrawCarts_3_so) : SFloor × (Int × Sl1Cur × List SCart) := ((((⟨y.2.2.1.1, y.2.2.1.2.1, y.2.2.1.2.2.1⟩ : SFloor) : SFloor)), (y.1.2.2.2.1, ((⟨y.2.1.1, y.2.1.2.1, y.2.1.2.2.1⟩ : Sl1Cur) : Sl1Cur), y.2.2.2.1))
def spec_l19DrawCarts_3_b (n : Nat) {R : Type} (K : Ex → Sm.St T → Option R) (c : SFloor) (x : Int × Sl1Cur × List SCart) (J : (Int × Sl1Cur × List SCart) → Option R) : Option R :=
  spec_l19DrawCarts_L3 n (fun (y0 : List SCart) (y1 : Sl1Cur) => K (.exit 0) (stOf (T := T) [5] [3000000, 4503599627370496] [.one (.own 3000000 81 false)] [.arr 81 false, .var [.arr 5, .int .i64, .int .i64]] ((), ()) (y0, (y1.b, y1.i, y1.h, ()), ()))) (fun z0 z1 z2 => J (z0, z1, z2)) x.1 x.2.1 c x.2.2
def spec_l19DrawCarts_3_sp (n : Nat) : LSpec T := mkSpec T ⟨[((.reg 5), 3000000, 81)], [0, 3, 5, 6], [4503599627370496, 24, 3000000]⟩ spec_l19DrawCarts_3_sv spec_l19DrawCarts_3_so (SFloor) (Int × Sl1Cur × List SCart) spec_l19DrawCarts_3_emb spec_l19DrawCarts_3_prj (spec_l19DrawCarts_3_b n)
noncomputable def spec_l19DrawCarts_3_c : Code := ((loopCodes spec_l19DrawCarts_code)[0]?).getD .skip
def spec_l19DrawCarts_8_sv : List Sv := [.one (.ptr 4503599627370496 0 0), .one (.ptr 24 0 0), .one (.own 3000000 81 false), .one (.int .i64), .one (.ptr 56 0 0), .one (.bool), .one (.int .i64)]
def spec_l19DrawCarts_8_so : List So := [.var [.arr 5, .int .i64, .int .i64], .var [.int .i64, .int .i64, .arr 3], .arr 81 false, .var [.int .i64, .int .i64]]
def spec_l19DrawCarts_8_emb (c : Int × Sl1Cur × SFloor × List SCart × SCart) (x : Bool × Int) : EVs T spec_l19DrawCarts_8_sv × EOs T spec_l19DrawCarts_8_so := (((), (), (), c.1, (), x.1, x.2, ()), ((c.2.1.b, c.2.1.i, c.2.1.h, ()), (c.2.2.1.Wide, c.2.2.1.High, c.2.2.1.Ways, ()), c.2.2.2.1, (c.2.2.2.2.At, c.2.2.2.2.Goal, ()), ()))
def spec_l19DrawCarts_8_prj (y : EVs T spec_l19DrawCarts_8_sv × EOs T spec_l19DrawCarts_8_so) : (Int × Sl1Cur × SFloor × List SCart × SCart) × (Bool × Int) := ((y.1.2.2.2.1, ((⟨y.2.1.1, y.2.1.2.1, y.2.1.2.2.1⟩ : Sl1Cur) : Sl1Cur), ((⟨y.2.2.1.1, y.2.2.1.2.1, y.2.2.1.2.2.1⟩ : SFloor) : SFloor), y.2.2.2.1, ((⟨y.2.2.2.2.1.1, y.2.2.2.2.1.2.1⟩ : SCart) : SCart)), (y.1.2.2.2.2.2.1, y.1.2.2.2.2.2.2.1))
def spec_l19DrawCarts_8_b (n : Nat) {R : Type} (K : Ex → Sm.St T → Option R) (c : Int × Sl1Cur × SFloor × List SCart × SCart) (x : Bool × Int) (J : (Bool × Int) → Option R) : Option R :=
  spec_l19DrawCarts_L8 n (fun (y1 : Bool) => K (.exit 2) (stOf (T := T) [0, 3, 5, 6, 7, 8] [4503599627370496, 24, 3000000, 56] [.one (.ptr 4503599627370496 0 0), .one (.ptr 24 0 0), .one (.own 3000000 81 false), .one (.int .i64), .one (.ptr 56 0 0), .one (.bool)] [.var [.arr 5, .int .i64, .int .i64], .var [.int .i64, .int .i64, .arr 3], .arr 81 false, .var [.int .i64, .int .i64]] ((), (), (), c.1, (), y1, ()) ((c.2.1.b, c.2.1.i, c.2.1.h, ()), (c.2.2.1.Wide, c.2.2.1.High, c.2.2.1.Ways, ()), c.2.2.2.1, (c.2.2.2.2.At, c.2.2.2.2.Goal, ()), ()))) (fun z0 z1 => J (z0, z1)) c.1 x.1 x.2 c.2.1 c.2.2.1 c.2.2.2.1 c.2.2.2.2
def spec_l19DrawCarts_8_sp (n : Nat) : LSpec T := mkSpec T ⟨[((.reg 5), 3000000, 81)], [0, 3, 5, 6, 7, 8, 9], [4503599627370496, 24, 3000000, 56]⟩ spec_l19DrawCarts_8_sv spec_l19DrawCarts_8_so (Int × Sl1Cur × SFloor × List SCart × SCart) (Bool × Int) spec_l19DrawCarts_8_emb spec_l19DrawCarts_8_prj (spec_l19DrawCarts_8_b n)
noncomputable def spec_l19DrawCarts_8_c : Code := ((loopCodes spec_l19DrawCarts_code)[1]?).getD .skip
def spec_l19DrawCarts_ann : Ann := fun id => bif Nat.beq id 3000003 then some ⟨[((.reg 5), 3000000, 81)], [5], [3000000, 4503599627370496]⟩ else bif Nat.beq id 5000008 then some ⟨[((.reg 5), 3000000, 81)], [0, 3, 5, 6, 7, 8], [4503599627370496, 24, 3000000, 56]⟩ else none
def spec_l19DrawCarts_Ls (n : Nat) : Nat → Option (LSpec T) := fun id => bif Nat.beq id 3 then some (spec_l19DrawCarts_3_sp n) else bif Nat.beq id 8 then some (spec_l19DrawCarts_8_sp n) else none
theorem spec_l19DrawCarts_3_le (n : Nat) : LoopEq (T := T) (Phi n 8) (spec_l19DrawCarts_Ls n) spec_l19DrawCarts_ann n spec_l19DrawCarts_3_c (spec_l19DrawCarts_3_sp n) := ⟨mkSpec_dec (fun y => rfl), fun c x => by kernel_rfl, fun K J c x => by kernel_rfl⟩
theorem spec_l19DrawCarts_8_le (n : Nat) : LoopEq (T := T) (Phi n 8) (spec_l19DrawCarts_Ls n) spec_l19DrawCarts_ann n spec_l19DrawCarts_8_c (spec_l19DrawCarts_8_sp n) := ⟨mkSpec_dec (fun y => rfl), fun c x => by kernel_rfl, fun K J c x => by kernel_rfl⟩
theorem spec_l19DrawCarts_tie (n : Nat) (c0 : Sl1Cur) (f1 : SFloor) : evF (T := T) (Phi n 8) (spec_l19DrawCarts_Ls n) spec_l19DrawCarts_ann n Try.f118 (sg 118) [.ptr 160 c0, vA T 71 f1] spec_l19DrawCarts_dec = spec_l19DrawCarts n c0 f1 := by kernel_rfl
theorem spec_l19DrawCarts_lo (n : Nat) : LoopsOk (T := T) (Phi n 8) (spec_l19DrawCarts_Ls n) spec_l19DrawCarts_ann n spec_l19DrawCarts_code := loopsOk_all (cs := [spec_l19DrawCarts_3_c, spec_l19DrawCarts_8_c]) (by kernel_rfl) ⟨⟨_, by kernel_rfl, spec_l19DrawCarts_3_le n⟩, ⟨_, by kernel_rfl, spec_l19DrawCarts_8_le n⟩, trivial⟩
theorem spec_l19DrawCarts_ok (n : Nat) : EntOk Try.prog (ents n) (spec_l19DrawCarts_ent n) := by
  intro hs ar y hg h
  replace h : spec_l19DrawCarts_D n ar = some y := h
  unfold spec_l19DrawCarts_D at h
  replace h := ocons_some h
  obtain ⟨a0, r0, rfl, h⟩ := h
  replace h := ocons_some h
  obtain ⟨a1, r1, rfl, h⟩ := h
  replace h := onil_some h
  obtain ⟨rfl, h⟩ := h
  obtain ⟨c0, qh0, h⟩ := obind_some h
  obtain ⟨f1, qh1, h⟩ := obind_some h
  rw [argP_eq qh0, argV_eq ok qh1]
  exact call_of (phiE_nat _ _) hs ok mixed Try.func118 (c := spec_l19DrawCarts_code) (by kernel_rfl) (spec_l19DrawCarts_lo n) (by kernel_rfl) (by kernel_rfl) (by kernel_rfl) spec_l19DrawCarts_de ((spec_l19DrawCarts_tie n c0 f1).trans h)
noncomputable def spec_DrawFloor_code : Code := match Try.f42.body with | some c => c | none => .skip
def spec_DrawFloor_ann : Ann := fun id => bif Nat.beq id 3 then some ⟨[((.cell 40 2), 3, 999999)], [0, 2, 3, 4, 5, 6, 7, 8, 9], [16, 56, 40]⟩ else none
def spec_DrawFloor_Ls (n : Nat) : Nat → Option (LSpec T) := fun id => none
theorem spec_DrawFloor_tie (n : Nat) (code0 : List Int) : evF (T := T) (Phi n 9) (spec_DrawFloor_Ls n) spec_DrawFloor_ann n Try.f42 (sg 42) [vA T 22 code0] spec_DrawFloor_dec = spec_DrawFloor n code0 := by kernel_rfl
theorem spec_DrawFloor_lo (n : Nat) : LoopsOk (T := T) (Phi n 9) (spec_DrawFloor_Ls n) spec_DrawFloor_ann n spec_DrawFloor_code := loopsOk_all (cs := []) (by kernel_rfl) trivial
theorem spec_DrawFloor_ok (n : Nat) : EntOk Try.prog (ents n) (spec_DrawFloor_ent n) := by
  intro hs ar y hg h
  replace h : spec_DrawFloor_D n ar = some y := h
  unfold spec_DrawFloor_D at h
  replace h := ocons_some h
  obtain ⟨a0, r0, rfl, h⟩ := h
  replace h := onil_some h
  obtain ⟨rfl, h⟩ := h
  obtain ⟨code0, qh0, h⟩ := obind_some h
  rw [argV_eq ok qh0]
  exact call_of (phiE_nat _ _) hs ok mixed Try.func42 (c := spec_DrawFloor_code) (by kernel_rfl) (spec_DrawFloor_lo n) (by kernel_rfl) (by kernel_rfl) (by kernel_rfl) spec_DrawFloor_de ((spec_DrawFloor_tie n code0).trans h)
noncomputable def impl_in_code : Code := match Try.f68.body with | some c => c | none => .skip
def impl_in_ann : Ann := fun id => none
def impl_in_Ls (n : Nat) : Nat → Option (LSpec T) := fun id => none
theorem impl_in_tie (n : Nat) (n0 : Int) (least1 : Int) (most2 : Int) : evF (T := T) (Phi n 10) (impl_in_Ls n) impl_in_ann n Try.f68 (sg 68) [vA T 3 n0, vA T 3 least1, vA T 3 most2] impl_in_dec = impl_in n n0 least1 most2 := by kernel_rfl
theorem impl_in_lo (n : Nat) : LoopsOk (T := T) (Phi n 10) (impl_in_Ls n) impl_in_ann n impl_in_code := loopsOk_all (cs := []) (by kernel_rfl) trivial
theorem impl_in_ok (n : Nat) : EntOk Try.prog (ents n) (impl_in_ent n) := by
  intro hs ar y hg h
  replace h : impl_in_D n ar = some y := h
  unfold impl_in_D at h
  replace h := ocons_some h
  obtain ⟨a0, r0, rfl, h⟩ := h
  replace h := ocons_some h
  obtain ⟨a1, r1, rfl, h⟩ := h
  replace h := ocons_some h
  obtain ⟨a2, r2, rfl, h⟩ := h
  replace h := onil_some h
  obtain ⟨rfl, h⟩ := h
  obtain ⟨n0, qh0, h⟩ := obind_some h
  obtain ⟨least1, qh1, h⟩ := obind_some h
  obtain ⟨most2, qh2, h⟩ := obind_some h
  rw [argV_eq ok qh0, argV_eq ok qh1, argV_eq ok qh2]
  exact call_of (phiE_nat _ _) hs ok mixed Try.func68 (c := impl_in_code) (by kernel_rfl) (impl_in_lo n) (by kernel_rfl) (by kernel_rfl) (by kernel_rfl) impl_in_de ((impl_in_tie n n0 least1 most2).trans h)
noncomputable def impl_all_1_code : Code := match Try.f163.body with | some c => c | none => .skip
def impl_all_1_ann : Ann := fun id => none
def impl_all_1_Ls (n : Nat) : Nat → Option (LSpec T) := fun id => none
theorem impl_all_1_tie (n : Nat) (n0 : Int) (a1 : Int) (a2 : Int) : evF (T := T) (Phi n 11) (impl_all_1_Ls n) impl_all_1_ann n Try.f163 (sg 163) [vA T 3 n0, .ptr 3 a1, .ptr 3 a2] impl_all_1_dec = impl_all_1 n n0 a1 a2 := by kernel_rfl
theorem impl_all_1_lo (n : Nat) : LoopsOk (T := T) (Phi n 11) (impl_all_1_Ls n) impl_all_1_ann n impl_all_1_code := loopsOk_all (cs := []) (by kernel_rfl) trivial
theorem impl_all_1_ok (n : Nat) : EntOk Try.prog (ents n) (impl_all_1_ent n) := by
  intro hs ar y hg h
  replace h : impl_all_1_D n ar = some y := h
  unfold impl_all_1_D at h
  replace h := ocons_some h
  obtain ⟨a0, r0, rfl, h⟩ := h
  replace h := ocons_some h
  obtain ⟨a1, r1, rfl, h⟩ := h
  replace h := ocons_some h
  obtain ⟨a2, r2, rfl, h⟩ := h
  replace h := onil_some h
  obtain ⟨rfl, h⟩ := h
  obtain ⟨n0, qh0, h⟩ := obind_some h
  obtain ⟨a1, qh1, h⟩ := obind_some h
  obtain ⟨a2, qh2, h⟩ := obind_some h
  rw [argV_eq ok qh0, argP_eq qh1, argP_eq qh2]
  exact call_of (phiE_nat _ _) hs ok mixed Try.func163 (c := impl_all_1_code) (by kernel_rfl) (impl_all_1_lo n) (by kernel_rfl) (by kernel_rfl) (by kernel_rfl) impl_all_1_de ((impl_all_1_tie n n0 a1 a2).trans h)
noncomputable def slices_IndexFunc_int_int__impl_all_1_code : Code := match Try.f179.body with | some c => c | none => .skip
def slices_IndexFunc_int_int__impl_all_1_2_sv : List Sv := [.one (.arr 3), .one (.fnr 163 [3, 3]), .one (.int .i64), .one (.int .i64)]
def slices_IndexFunc_int_int__impl_all_1_2_so : List So := []
def slices_IndexFunc_int_int__impl_all_1_2_emb (c : List Int × Int × Int × Int) (x : Int) : EVs T slices_IndexFunc_int_int__impl_all_1_2_sv × EOs T slices_IndexFunc_int_int__impl_all_1_2_so := ((c.1, (c.2.1, c.2.2.1, ()), c.2.2.2, x, ()), ())
def slices_IndexFunc_int_int__impl_all_1_2_prj (y : EVs T slices_IndexFunc_int_int__impl_all_1_2_sv × EOs T slices_IndexFunc_int_int__impl_all_1_2_so) : (List Int × Int × Int × Int) × Int := ((y.1.1, y.1.2.1.1, y.1.2.1.2.1, y.1.2.2.1), (y.1.2.2.2.1))
def slices_IndexFunc_int_int__impl_all_1_2_b (n : Nat) {R : Type} (K : Ex → Sm.St T → Option R) (c : List Int × Int × Int × Int) (x : Int) (J : Int → Option R) : Option R :=
  slices_IndexFunc_int_int__impl_all_1_L2 n (K (.exit 0) (stOf (T := T) [] [] [] [] () ())) (fun (y0 : Int) => K .ret (stOf (T := T) [4] [] [.one (.int .i64)] [] (y0, ()) ())) J c.1 c.2.1 c.2.2.1 c.2.2.2 x
def slices_IndexFunc_int_int__impl_all_1_2_sp (n : Nat) : LSpec T := mkSpec T ⟨[], [0, 1, 7, 8], []⟩ slices_IndexFunc_int_int__impl_all_1_2_sv slices_IndexFunc_int_int__impl_all_1_2_so (List Int × Int × Int × Int) (Int) slices_IndexFunc_int_int__impl_all_1_2_emb slices_IndexFunc_int_int__impl_all_1_2_prj (slices_IndexFunc_int_int__impl_all_1_2_b n)
noncomputable def slices_IndexFunc_int_int__impl_all_1_2_c : Code := ((loopCodes slices_IndexFunc_int_int__impl_all_1_code)[0]?).getD .skip
def slices_IndexFunc_int_int__impl_all_1_ann : Ann := fun id => bif Nat.beq id 3000002 then some ⟨[], [], []⟩ else bif Nat.beq id 2000002 then some ⟨[], [4], []⟩ else none
def slices_IndexFunc_int_int__impl_all_1_Ls (n : Nat) : Nat → Option (LSpec T) := fun id => bif Nat.beq id 2 then some (slices_IndexFunc_int_int__impl_all_1_2_sp n) else none
theorem slices_IndexFunc_int_int__impl_all_1_2_le (n : Nat) : LoopEq (T := T) (Phi n 12) (slices_IndexFunc_int_int__impl_all_1_Ls n) slices_IndexFunc_int_int__impl_all_1_ann n slices_IndexFunc_int_int__impl_all_1_2_c (slices_IndexFunc_int_int__impl_all_1_2_sp n) := ⟨mkSpec_dec (fun y => rfl), fun c x => by kernel_rfl, fun K J c x => by kernel_rfl⟩
theorem slices_IndexFunc_int_int__impl_all_1_tie (n : Nat) (s0 : List Int) (f1c0 : Int) (f1c1 : Int) : evF (T := T) (Phi n 12) (slices_IndexFunc_int_int__impl_all_1_Ls n) slices_IndexFunc_int_int__impl_all_1_ann n Try.f179 (sg 179) [vA T 41 s0, .fn 163 [.ptr 3 f1c0, .ptr 3 f1c1]] slices_IndexFunc_int_int__impl_all_1_dec = slices_IndexFunc_int_int__impl_all_1 n s0 f1c0 f1c1 := by kernel_rfl
theorem slices_IndexFunc_int_int__impl_all_1_lo (n : Nat) : LoopsOk (T := T) (Phi n 12) (slices_IndexFunc_int_int__impl_all_1_Ls n) slices_IndexFunc_int_int__impl_all_1_ann n slices_IndexFunc_int_int__impl_all_1_code := loopsOk_all (cs := [slices_IndexFunc_int_int__impl_all_1_2_c]) (by kernel_rfl) ⟨⟨_, by kernel_rfl, slices_IndexFunc_int_int__impl_all_1_2_le n⟩, trivial⟩
theorem slices_IndexFunc_int_int__impl_all_1_ok (n : Nat) : EntOk Try.prog (ents n) (slices_IndexFunc_int_int__impl_all_1_ent n) := by
  intro hs ar y hg h
  replace h : slices_IndexFunc_int_int__impl_all_1_D n ar = some y := h
  unfold slices_IndexFunc_int_int__impl_all_1_D at h
  split at h
  · obtain ⟨s0, qh0, h⟩ := obind_some h
    obtain ⟨f1c0, qh1, h⟩ := obind_some h
    obtain ⟨f1c1, qh2, h⟩ := obind_some h
    rw [argV_eq ok qh0, argP_eq qh1, argP_eq qh2] at hg ⊢
    cases (show [_] = [163] from natsEq_eq hg)
    exact call_of (phiE_nat _ _) hs ok mixed Try.func179 (c := slices_IndexFunc_int_int__impl_all_1_code) (by kernel_rfl) (slices_IndexFunc_int_int__impl_all_1_lo n) (by kernel_rfl) (by kernel_rfl) (by kernel_rfl) slices_IndexFunc_int_int__impl_all_1_de ((slices_IndexFunc_int_int__impl_all_1_tie n s0 f1c0 f1c1).trans h)
  · cases h
noncomputable def slices_ContainsFunc_int_int__impl_all_1_code : Code := match Try.f162.body with | some c => c | none => .skip
def slices_ContainsFunc_int_int__impl_all_1_ann : Ann := fun id => none
def slices_ContainsFunc_int_int__impl_all_1_Ls (n : Nat) : Nat → Option (LSpec T) := fun id => none
theorem slices_ContainsFunc_int_int__impl_all_1_tie (n : Nat) (s0 : List Int) (f1c0 : Int) (f1c1 : Int) : evF (T := T) (Phi n 13) (slices_ContainsFunc_int_int__impl_all_1_Ls n) slices_ContainsFunc_int_int__impl_all_1_ann n Try.f162 (sg 162) [vA T 41 s0, .fn 163 [.ptr 3 f1c0, .ptr 3 f1c1]] slices_ContainsFunc_int_int__impl_all_1_dec = slices_ContainsFunc_int_int__impl_all_1 n s0 f1c0 f1c1 := by kernel_rfl
theorem slices_ContainsFunc_int_int__impl_all_1_lo (n : Nat) : LoopsOk (T := T) (Phi n 13) (slices_ContainsFunc_int_int__impl_all_1_Ls n) slices_ContainsFunc_int_int__impl_all_1_ann n slices_ContainsFunc_int_int__impl_all_1_code := loopsOk_all (cs := []) (by kernel_rfl) trivial
theorem slices_ContainsFunc_int_int__impl_all_1_ok (n : Nat) : EntOk Try.prog (ents n) (slices_ContainsFunc_int_int__impl_all_1_ent n) := by
  intro hs ar y hg h
  replace h : slices_ContainsFunc_int_int__impl_all_1_D n ar = some y := h
  unfold slices_ContainsFunc_int_int__impl_all_1_D at h
  split at h
  · obtain ⟨s0, qh0, h⟩ := obind_some h
    obtain ⟨f1c0, qh1, h⟩ := obind_some h
    obtain ⟨f1c1, qh2, h⟩ := obind_some h
    rw [argV_eq ok qh0, argP_eq qh1, argP_eq qh2] at hg ⊢
    cases (show [_] = [163] from natsEq_eq hg)
    exact call_of (phiE_nat _ _) hs ok mixed Try.func162 (c := slices_ContainsFunc_int_int__impl_all_1_code) (by kernel_rfl) (slices_ContainsFunc_int_int__impl_all_1_lo n) (by kernel_rfl) (by kernel_rfl) (by kernel_rfl) slices_ContainsFunc_int_int__impl_all_1_de ((slices_ContainsFunc_int_int__impl_all_1_tie n s0 f1c0 f1c1).trans h)
  · cases h
noncomputable def impl_all_code : Code := match Try.f119.body with | some c => c | none => .skip
def impl_all_ann : Ann := fun id => none
def impl_all_Ls (n : Nat) : Nat → Option (LSpec T) := fun id => none
theorem impl_all_tie (n : Nat) (l0 : List Int) (least1 : Int) (most2 : Int) : evF (T := T) (Phi n 14) (impl_all_Ls n) impl_all_ann n Try.f119 (sg 119) [vA T 41 l0, vA T 3 least1, vA T 3 most2] impl_all_dec = impl_all n l0 least1 most2 := by kernel_rfl
theorem impl_all_lo (n : Nat) : LoopsOk (T := T) (Phi n 14) (impl_all_Ls n) impl_all_ann n impl_all_code := loopsOk_all (cs := []) (by kernel_rfl) trivial
theorem impl_all_ok (n : Nat) : EntOk Try.prog (ents n) (impl_all_ent n) := by
  intro hs ar y hg h
  replace h : impl_all_D n ar = some y := h
  unfold impl_all_D at h
  replace h := ocons_some h
  obtain ⟨a0, r0, rfl, h⟩ := h
  replace h := ocons_some h
  obtain ⟨a1, r1, rfl, h⟩ := h
  replace h := ocons_some h
  obtain ⟨a2, r2, rfl, h⟩ := h
  replace h := onil_some h
  obtain ⟨rfl, h⟩ := h
  obtain ⟨l0, qh0, h⟩ := obind_some h
  obtain ⟨least1, qh1, h⟩ := obind_some h
  obtain ⟨most2, qh2, h⟩ := obind_some h
  rw [argV_eq ok qh0, argV_eq ok qh1, argV_eq ok qh2]
  exact call_of (phiE_nat _ _) hs ok mixed Try.func119 (c := impl_all_code) (by kernel_rfl) (impl_all_lo n) (by kernel_rfl) (by kernel_rfl) (by kernel_rfl) impl_all_de ((impl_all_tie n l0 least1 most2).trans h)
noncomputable def impl_FloorOk_code : Code := match Try.f43.body with | some c => c | none => .skip
def impl_FloorOk_ann : Ann := fun id => none
def impl_FloorOk_Ls (n : Nat) : Nat → Option (LSpec T) := fun id => none
theorem impl_FloorOk_tie (n : Nat) (f0 : SFloor) : evF (T := T) (Phi n 15) (impl_FloorOk_Ls n) impl_FloorOk_ann n Try.f43 (sg 43) [vA T 71 f0] impl_FloorOk_dec = impl_FloorOk n f0 := by kernel_rfl
theorem impl_FloorOk_lo (n : Nat) : LoopsOk (T := T) (Phi n 15) (impl_FloorOk_Ls n) impl_FloorOk_ann n impl_FloorOk_code := loopsOk_all (cs := []) (by kernel_rfl) trivial
theorem impl_FloorOk_ok (n : Nat) : EntOk Try.prog (ents n) (impl_FloorOk_ent n) := by
  intro hs ar y hg h
  replace h : impl_FloorOk_D n ar = some y := h
  unfold impl_FloorOk_D at h
  replace h := ocons_some h
  obtain ⟨a0, r0, rfl, h⟩ := h
  replace h := onil_some h
  obtain ⟨rfl, h⟩ := h
  obtain ⟨f0, qh0, h⟩ := obind_some h
  rw [argV_eq ok qh0]
  exact call_of (phiE_nat _ _) hs ok mixed Try.func43 (c := impl_FloorOk_code) (by kernel_rfl) (impl_FloorOk_lo n) (by kernel_rfl) (by kernel_rfl) (by kernel_rfl) impl_FloorOk_de ((impl_FloorOk_tie n f0).trans h)
noncomputable def impl_Floor_place_code : Code := match Try.f120.body with | some c => c | none => .skip
def impl_Floor_place_ann : Ann := fun id => none
def impl_Floor_place_Ls (n : Nat) : Nat → Option (LSpec T) := fun id => none
theorem impl_Floor_place_tie (n : Nat) (f0 : SFloor) (p1 : Int) : evF (T := T) (Phi n 16) (impl_Floor_place_Ls n) impl_Floor_place_ann n Try.f120 (sg 120) [vA T 71 f0, vA T 3 p1] impl_Floor_place_dec = impl_Floor_place n f0 p1 := by kernel_rfl
theorem impl_Floor_place_lo (n : Nat) : LoopsOk (T := T) (Phi n 16) (impl_Floor_place_Ls n) impl_Floor_place_ann n impl_Floor_place_code := loopsOk_all (cs := []) (by kernel_rfl) trivial
theorem impl_Floor_place_ok (n : Nat) : EntOk Try.prog (ents n) (impl_Floor_place_ent n) := by
  intro hs ar y hg h
  replace h : impl_Floor_place_D n ar = some y := h
  unfold impl_Floor_place_D at h
  replace h := ocons_some h
  obtain ⟨a0, r0, rfl, h⟩ := h
  replace h := ocons_some h
  obtain ⟨a1, r1, rfl, h⟩ := h
  replace h := onil_some h
  obtain ⟨rfl, h⟩ := h
  obtain ⟨f0, qh0, h⟩ := obind_some h
  obtain ⟨p1, qh1, h⟩ := obind_some h
  rw [argV_eq ok qh0, argV_eq ok qh1]
  exact call_of (phiE_nat _ _) hs ok mixed Try.func120 (c := impl_Floor_place_code) (by kernel_rfl) (impl_Floor_place_lo n) (by kernel_rfl) (by kernel_rfl) (by kernel_rfl) impl_Floor_place_de ((impl_Floor_place_tie n f0 p1).trans h)
noncomputable def impl_CartsOk_1_code : Code := match Try.f122.body with | some c => c | none => .skip
def impl_CartsOk_1_ann : Ann := fun id => none
def impl_CartsOk_1_Ls (n : Nat) : Nat → Option (LSpec T) := fun id => none
theorem impl_CartsOk_1_tie (n : Nat) (x0 : SCart) (a1 : SCart) : evF (T := T) (Phi n 17) (impl_CartsOk_1_Ls n) impl_CartsOk_1_ann n Try.f122 (sg 122) [vA T 81 x0, .ptr 81 a1] impl_CartsOk_1_dec = impl_CartsOk_1 n x0 a1 := by kernel_rfl
theorem impl_CartsOk_1_lo (n : Nat) : LoopsOk (T := T) (Phi n 17) (impl_CartsOk_1_Ls n) impl_CartsOk_1_ann n impl_CartsOk_1_code := loopsOk_all (cs := []) (by kernel_rfl) trivial
theorem impl_CartsOk_1_ok (n : Nat) : EntOk Try.prog (ents n) (impl_CartsOk_1_ent n) := by
  intro hs ar y hg h
  replace h : impl_CartsOk_1_D n ar = some y := h
  unfold impl_CartsOk_1_D at h
  replace h := ocons_some h
  obtain ⟨a0, r0, rfl, h⟩ := h
  replace h := ocons_some h
  obtain ⟨a1, r1, rfl, h⟩ := h
  replace h := onil_some h
  obtain ⟨rfl, h⟩ := h
  obtain ⟨x0, qh0, h⟩ := obind_some h
  obtain ⟨a1, qh1, h⟩ := obind_some h
  rw [argV_eq ok qh0, argP_eq qh1]
  exact call_of (phiE_nat _ _) hs ok mixed Try.func122 (c := impl_CartsOk_1_code) (by kernel_rfl) (impl_CartsOk_1_lo n) (by kernel_rfl) (by kernel_rfl) (by kernel_rfl) impl_CartsOk_1_de ((impl_CartsOk_1_tie n x0 a1).trans h)
noncomputable def slices_IndexFunc_impl_Cart_impl_Cart__impl_CartsOk_1_code : Code := match Try.f164.body with | some c => c | none => .skip
def slices_IndexFunc_impl_Cart_impl_Cart__impl_CartsOk_1_2_sv : List Sv := [.one (.arr 81), .one (.fnr 122 [81]), .one (.int .i64), .one (.int .i64)]
def slices_IndexFunc_impl_Cart_impl_Cart__impl_CartsOk_1_2_so : List So := []
def slices_IndexFunc_impl_Cart_impl_Cart__impl_CartsOk_1_2_emb (c : List SCart × SCart × Int) (x : Int) : EVs T slices_IndexFunc_impl_Cart_impl_Cart__impl_CartsOk_1_2_sv × EOs T slices_IndexFunc_impl_Cart_impl_Cart__impl_CartsOk_1_2_so := ((c.1, (c.2.1, ()), c.2.2, x, ()), ())
def slices_IndexFunc_impl_Cart_impl_Cart__impl_CartsOk_1_2_prj (y : EVs T slices_IndexFunc_impl_Cart_impl_Cart__impl_CartsOk_1_2_sv × EOs T slices_IndexFunc_impl_Cart_impl_Cart__impl_CartsOk_1_2_so) : (List SCart × SCart × Int) × Int := ((y.1.1, y.1.2.1.1, y.1.2.2.1), (y.1.2.2.2.1))
def slices_IndexFunc_impl_Cart_impl_Cart__impl_CartsOk_1_2_b (n : Nat) {R : Type} (K : Ex → Sm.St T → Option R) (c : List SCart × SCart × Int) (x : Int) (J : Int → Option R) : Option R :=
  slices_IndexFunc_impl_Cart_impl_Cart__impl_CartsOk_1_L2 n (K (.exit 0) (stOf (T := T) [] [] [] [] () ())) (fun (y0 : Int) => K .ret (stOf (T := T) [4] [] [.one (.int .i64)] [] (y0, ()) ())) J c.1 c.2.1 c.2.2 x
def slices_IndexFunc_impl_Cart_impl_Cart__impl_CartsOk_1_2_sp (n : Nat) : LSpec T := mkSpec T ⟨[], [0, 1, 7, 8], []⟩ slices_IndexFunc_impl_Cart_impl_Cart__impl_CartsOk_1_2_sv slices_IndexFunc_impl_Cart_impl_Cart__impl_CartsOk_1_2_so (List SCart × SCart × Int) (Int) slices_IndexFunc_impl_Cart_impl_Cart__impl_CartsOk_1_2_emb slices_IndexFunc_impl_Cart_impl_Cart__impl_CartsOk_1_2_prj (slices_IndexFunc_impl_Cart_impl_Cart__impl_CartsOk_1_2_b n)
noncomputable def slices_IndexFunc_impl_Cart_impl_Cart__impl_CartsOk_1_2_c : Code := ((loopCodes slices_IndexFunc_impl_Cart_impl_Cart__impl_CartsOk_1_code)[0]?).getD .skip
def slices_IndexFunc_impl_Cart_impl_Cart__impl_CartsOk_1_ann : Ann := fun id => bif Nat.beq id 3000002 then some ⟨[], [], []⟩ else bif Nat.beq id 2000002 then some ⟨[], [4], []⟩ else none
def slices_IndexFunc_impl_Cart_impl_Cart__impl_CartsOk_1_Ls (n : Nat) : Nat → Option (LSpec T) := fun id => bif Nat.beq id 2 then some (slices_IndexFunc_impl_Cart_impl_Cart__impl_CartsOk_1_2_sp n) else none
theorem slices_IndexFunc_impl_Cart_impl_Cart__impl_CartsOk_1_2_le (n : Nat) : LoopEq (T := T) (Phi n 18) (slices_IndexFunc_impl_Cart_impl_Cart__impl_CartsOk_1_Ls n) slices_IndexFunc_impl_Cart_impl_Cart__impl_CartsOk_1_ann n slices_IndexFunc_impl_Cart_impl_Cart__impl_CartsOk_1_2_c (slices_IndexFunc_impl_Cart_impl_Cart__impl_CartsOk_1_2_sp n) := ⟨mkSpec_dec (fun y => rfl), fun c x => by kernel_rfl, fun K J c x => by kernel_rfl⟩
theorem slices_IndexFunc_impl_Cart_impl_Cart__impl_CartsOk_1_tie (n : Nat) (s0 : List SCart) (f1c0 : SCart) : evF (T := T) (Phi n 18) (slices_IndexFunc_impl_Cart_impl_Cart__impl_CartsOk_1_Ls n) slices_IndexFunc_impl_Cart_impl_Cart__impl_CartsOk_1_ann n Try.f164 (sg 164) [vA T 72 s0, .fn 122 [.ptr 81 f1c0]] slices_IndexFunc_impl_Cart_impl_Cart__impl_CartsOk_1_dec = slices_IndexFunc_impl_Cart_impl_Cart__impl_CartsOk_1 n s0 f1c0 := by kernel_rfl
theorem slices_IndexFunc_impl_Cart_impl_Cart__impl_CartsOk_1_lo (n : Nat) : LoopsOk (T := T) (Phi n 18) (slices_IndexFunc_impl_Cart_impl_Cart__impl_CartsOk_1_Ls n) slices_IndexFunc_impl_Cart_impl_Cart__impl_CartsOk_1_ann n slices_IndexFunc_impl_Cart_impl_Cart__impl_CartsOk_1_code := loopsOk_all (cs := [slices_IndexFunc_impl_Cart_impl_Cart__impl_CartsOk_1_2_c]) (by kernel_rfl) ⟨⟨_, by kernel_rfl, slices_IndexFunc_impl_Cart_impl_Cart__impl_CartsOk_1_2_le n⟩, trivial⟩
theorem slices_IndexFunc_impl_Cart_impl_Cart__impl_CartsOk_1_ok (n : Nat) : EntOk Try.prog (ents n) (slices_IndexFunc_impl_Cart_impl_Cart__impl_CartsOk_1_ent n) := by
  intro hs ar y hg h
  replace h : slices_IndexFunc_impl_Cart_impl_Cart__impl_CartsOk_1_D n ar = some y := h
  unfold slices_IndexFunc_impl_Cart_impl_Cart__impl_CartsOk_1_D at h
  split at h
  · obtain ⟨s0, qh0, h⟩ := obind_some h
    obtain ⟨f1c0, qh1, h⟩ := obind_some h
    rw [argV_eq ok qh0, argP_eq qh1] at hg ⊢
    cases (show [_] = [122] from natsEq_eq hg)
    exact call_of (phiE_nat _ _) hs ok mixed Try.func164 (c := slices_IndexFunc_impl_Cart_impl_Cart__impl_CartsOk_1_code) (by kernel_rfl) (slices_IndexFunc_impl_Cart_impl_Cart__impl_CartsOk_1_lo n) (by kernel_rfl) (by kernel_rfl) (by kernel_rfl) slices_IndexFunc_impl_Cart_impl_Cart__impl_CartsOk_1_de ((slices_IndexFunc_impl_Cart_impl_Cart__impl_CartsOk_1_tie n s0 f1c0).trans h)
  · cases h
noncomputable def slices_ContainsFunc_impl_Cart_impl_Cart__impl_CartsOk_1_code : Code := match Try.f121.body with | some c => c | none => .skip
def slices_ContainsFunc_impl_Cart_impl_Cart__impl_CartsOk_1_ann : Ann := fun id => none
def slices_ContainsFunc_impl_Cart_impl_Cart__impl_CartsOk_1_Ls (n : Nat) : Nat → Option (LSpec T) := fun id => none
theorem slices_ContainsFunc_impl_Cart_impl_Cart__impl_CartsOk_1_tie (n : Nat) (s0 : List SCart) (f1c0 : SCart) : evF (T := T) (Phi n 19) (slices_ContainsFunc_impl_Cart_impl_Cart__impl_CartsOk_1_Ls n) slices_ContainsFunc_impl_Cart_impl_Cart__impl_CartsOk_1_ann n Try.f121 (sg 121) [vA T 72 s0, .fn 122 [.ptr 81 f1c0]] slices_ContainsFunc_impl_Cart_impl_Cart__impl_CartsOk_1_dec = slices_ContainsFunc_impl_Cart_impl_Cart__impl_CartsOk_1 n s0 f1c0 := by kernel_rfl
theorem slices_ContainsFunc_impl_Cart_impl_Cart__impl_CartsOk_1_lo (n : Nat) : LoopsOk (T := T) (Phi n 19) (slices_ContainsFunc_impl_Cart_impl_Cart__impl_CartsOk_1_Ls n) slices_ContainsFunc_impl_Cart_impl_Cart__impl_CartsOk_1_ann n slices_ContainsFunc_impl_Cart_impl_Cart__impl_CartsOk_1_code := loopsOk_all (cs := []) (by kernel_rfl) trivial
theorem slices_ContainsFunc_impl_Cart_impl_Cart__impl_CartsOk_1_ok (n : Nat) : EntOk Try.prog (ents n) (slices_ContainsFunc_impl_Cart_impl_Cart__impl_CartsOk_1_ent n) := by
  intro hs ar y hg h
  replace h : slices_ContainsFunc_impl_Cart_impl_Cart__impl_CartsOk_1_D n ar = some y := h
  unfold slices_ContainsFunc_impl_Cart_impl_Cart__impl_CartsOk_1_D at h
  split at h
  · obtain ⟨s0, qh0, h⟩ := obind_some h
    obtain ⟨f1c0, qh1, h⟩ := obind_some h
    rw [argV_eq ok qh0, argP_eq qh1] at hg ⊢
    cases (show [_] = [122] from natsEq_eq hg)
    exact call_of (phiE_nat _ _) hs ok mixed Try.func121 (c := slices_ContainsFunc_impl_Cart_impl_Cart__impl_CartsOk_1_code) (by kernel_rfl) (slices_ContainsFunc_impl_Cart_impl_Cart__impl_CartsOk_1_lo n) (by kernel_rfl) (by kernel_rfl) (by kernel_rfl) slices_ContainsFunc_impl_Cart_impl_Cart__impl_CartsOk_1_de ((slices_ContainsFunc_impl_Cart_impl_Cart__impl_CartsOk_1_tie n s0 f1c0).trans h)
  · cases h
noncomputable def impl_CartsOk_code : Code := match Try.f44.body with | some c => c | none => .skip
def impl_CartsOk_4_sv : List Sv := [.one (.arr 81), .one (.ptr 16 0 0), .one (.arr 81), .one (.int .i64), .one (.int .i64)]
def impl_CartsOk_4_so : List So := [.var [.int .i64, .int .i64, .arr 3]]
def impl_CartsOk_4_emb (c : List SCart × List SCart × Int × SFloor) (x : Int) : EVs T impl_CartsOk_4_sv × EOs T impl_CartsOk_4_so := ((c.1, (), c.2.1, c.2.2.1, x, ()), ((c.2.2.2.Wide, c.2.2.2.High, c.2.2.2.Ways, ()), ()))
def impl_CartsOk_4_prj (y : EVs T impl_CartsOk_4_sv × EOs T impl_CartsOk_4_so) : (List SCart × List SCart × Int × SFloor) × Int := ((y.1.1, y.1.2.2.1, y.1.2.2.2.1, ((⟨y.2.1.1, y.2.1.2.1, y.2.1.2.2.1⟩ : SFloor) : SFloor)), (y.1.2.2.2.2.1))
def impl_CartsOk_4_b (n : Nat) {R : Type} (K : Ex → Sm.St T → Option R) (c : List SCart × List SCart × Int × SFloor) (x : Int) (J : Int → Option R) : Option R :=
  impl_CartsOk_L4 n (K (.exit 0) (stOf (T := T) [] [] [] [] () ())) (fun (y0 : Bool) => K .ret (stOf (T := T) [4] [] [.one (.bool)] [] (y0, ()) ())) J c.1 c.2.1 c.2.2.1 x c.2.2.2
def impl_CartsOk_4_sp (n : Nat) : LSpec T := mkSpec T ⟨[], [1, 2, 15, 16, 17], [16]⟩ impl_CartsOk_4_sv impl_CartsOk_4_so (List SCart × List SCart × Int × SFloor) (Int) impl_CartsOk_4_emb impl_CartsOk_4_prj (impl_CartsOk_4_b n)
noncomputable def impl_CartsOk_4_c : Code := ((loopCodes impl_CartsOk_code)[0]?).getD .skip
def impl_CartsOk_ann : Ann := fun id => bif Nat.beq id 3000004 then some ⟨[], [], []⟩ else bif Nat.beq id 2000004 then some ⟨[], [4], []⟩ else none
def impl_CartsOk_Ls (n : Nat) : Nat → Option (LSpec T) := fun id => bif Nat.beq id 4 then some (impl_CartsOk_4_sp n) else none
theorem impl_CartsOk_4_le (n : Nat) : LoopEq (T := T) (Phi n 20) (impl_CartsOk_Ls n) impl_CartsOk_ann n impl_CartsOk_4_c (impl_CartsOk_4_sp n) := ⟨mkSpec_dec (fun y => rfl), fun c x => by kernel_rfl, fun K J c x => by kernel_rfl⟩
theorem impl_CartsOk_tie (n : Nat) (f0 : SFloor) (carts1 : List SCart) : evF (T := T) (Phi n 20) (impl_CartsOk_Ls n) impl_CartsOk_ann n Try.f44 (sg 44) [vA T 71 f0, vA T 72 carts1] impl_CartsOk_dec = impl_CartsOk n f0 carts1 := by kernel_rfl
theorem impl_CartsOk_lo (n : Nat) : LoopsOk (T := T) (Phi n 20) (impl_CartsOk_Ls n) impl_CartsOk_ann n impl_CartsOk_code := loopsOk_all (cs := [impl_CartsOk_4_c]) (by kernel_rfl) ⟨⟨_, by kernel_rfl, impl_CartsOk_4_le n⟩, trivial⟩
theorem impl_CartsOk_ok (n : Nat) : EntOk Try.prog (ents n) (impl_CartsOk_ent n) := by
  intro hs ar y hg h
  replace h : impl_CartsOk_D n ar = some y := h
  unfold impl_CartsOk_D at h
  replace h := ocons_some h
  obtain ⟨a0, r0, rfl, h⟩ := h
  replace h := ocons_some h
  obtain ⟨a1, r1, rfl, h⟩ := h
  replace h := onil_some h
  obtain ⟨rfl, h⟩ := h
  obtain ⟨f0, qh0, h⟩ := obind_some h
  obtain ⟨carts1, qh1, h⟩ := obind_some h
  rw [argV_eq ok qh0, argV_eq ok qh1]
  exact call_of (phiE_nat _ _) hs ok mixed Try.func44 (c := impl_CartsOk_code) (by kernel_rfl) (impl_CartsOk_lo n) (by kernel_rfl) (by kernel_rfl) (by kernel_rfl) impl_CartsOk_de ((impl_CartsOk_tie n f0 carts1).trans h)
noncomputable def impl_Floor_leads_code : Code := match Try.f165.body with | some c => c | none => .skip
def impl_Floor_leads_4_sv : List Sv := [.one (.int .i64), .one (.ptr 16 0 0), .one (.own 3000000 3 false), .one (.int .i64), .one (.int .i64), .one (.own 3000001 188 false), .one (.int .i64), .one (.int .i64)]
def impl_Floor_leads_4_so : List So := [.var [.int .i64, .int .i64, .arr 3], .arr 3 false, .arr 188 false]
def impl_Floor_leads_4_emb (c : Int × Int × Int × Int × SFloor × List SArr2_Int) (x : Int × List Int) : EVs T impl_Floor_leads_4_sv × EOs T impl_Floor_leads_4_so := ((c.1, (), (), c.2.1, c.2.2.1, (), c.2.2.2.1, x.1, ()), ((c.2.2.2.2.1.Wide, c.2.2.2.2.1.High, c.2.2.2.2.1.Ways, ()), x.2, c.2.2.2.2.2, ()))
def impl_Floor_leads_4_prj (y : EVs T impl_Floor_leads_4_sv × EOs T impl_Floor_leads_4_so) : (Int × Int × Int × Int × SFloor × List SArr2_Int) × (Int × List Int) := ((y.1.1, y.1.2.2.2.1, y.1.2.2.2.2.1, y.1.2.2.2.2.2.2.1, ((⟨y.2.1.1, y.2.1.2.1, y.2.1.2.2.1⟩ : SFloor) : SFloor), y.2.2.2.1), (y.1.2.2.2.2.2.2.2.1, y.2.2.1))
def impl_Floor_leads_4_b (n : Nat) {R : Type} (K : Ex → Sm.St T → Option R) (c : Int × Int × Int × Int × SFloor × List SArr2_Int) (x : Int × List Int) (J : (Int × List Int) → Option R) : Option R :=
  impl_Floor_leads_L4 n (fun (y0 : List Int) => K (.exit 0) (stOf (T := T) [5] [3000000] [.one (.own 3000000 3 false)] [.arr 3 false] ((), ()) (y0, ()))) (fun z0 z1 => J (z0, z1)) c.1 c.2.1 c.2.2.1 c.2.2.2.1 x.1 c.2.2.2.2.1 x.2 c.2.2.2.2.2
def impl_Floor_leads_4_sp (n : Nat) : LSpec T := mkSpec T ⟨[((.reg 5), 3000000, 3), ((.reg 24), 3000001, 188)], [1, 2, 5, 6, 7, 24, 25, 26], [16, 3000000, 3000001]⟩ impl_Floor_leads_4_sv impl_Floor_leads_4_so (Int × Int × Int × Int × SFloor × List SArr2_Int) (Int × List Int) impl_Floor_leads_4_emb impl_Floor_leads_4_prj (impl_Floor_leads_4_b n)
noncomputable def impl_Floor_leads_4_c : Code := ((loopCodes impl_Floor_leads_code)[0]?).getD .skip
def impl_Floor_leads_ann : Ann := fun id => bif Nat.beq id 3000004 then some ⟨[((.reg 5), 3000000, 3)], [5], [3000000]⟩ else none
def impl_Floor_leads_Ls (n : Nat) : Nat → Option (LSpec T) := fun id => bif Nat.beq id 4 then some (impl_Floor_leads_4_sp n) else none
theorem impl_Floor_leads_4_le (n : Nat) : LoopEq (T := T) (Phi n 21) (impl_Floor_leads_Ls n) impl_Floor_leads_ann n impl_Floor_leads_4_c (impl_Floor_leads_4_sp n) := ⟨mkSpec_dec (fun y => rfl), fun c x => by kernel_rfl, fun K J c x => by kernel_rfl⟩
theorem impl_Floor_leads_tie (n : Nat) (f0 : SFloor) (p1 : Int) : evF (T := T) (Phi n 21) (impl_Floor_leads_Ls n) impl_Floor_leads_ann n Try.f165 (sg 165) [vA T 71 f0, vA T 3 p1] impl_Floor_leads_dec = impl_Floor_leads n f0 p1 := by kernel_rfl
theorem impl_Floor_leads_lo (n : Nat) : LoopsOk (T := T) (Phi n 21) (impl_Floor_leads_Ls n) impl_Floor_leads_ann n impl_Floor_leads_code := loopsOk_all (cs := [impl_Floor_leads_4_c]) (by kernel_rfl) ⟨⟨_, by kernel_rfl, impl_Floor_leads_4_le n⟩, trivial⟩
theorem impl_Floor_leads_ok (n : Nat) : EntOk Try.prog (ents n) (impl_Floor_leads_ent n) := by
  intro hs ar y hg h
  replace h : impl_Floor_leads_D n ar = some y := h
  unfold impl_Floor_leads_D at h
  replace h := ocons_some h
  obtain ⟨a0, r0, rfl, h⟩ := h
  replace h := ocons_some h
  obtain ⟨a1, r1, rfl, h⟩ := h
  replace h := onil_some h
  obtain ⟨rfl, h⟩ := h
  obtain ⟨f0, qh0, h⟩ := obind_some h
  obtain ⟨p1, qh1, h⟩ := obind_some h
  rw [argV_eq ok qh0, argV_eq ok qh1]
  exact call_of (phiE_nat _ _) hs ok mixed Try.func165 (c := impl_Floor_leads_code) (by kernel_rfl) (impl_Floor_leads_lo n) (by kernel_rfl) (by kernel_rfl) (by kernel_rfl) impl_Floor_leads_de ((impl_Floor_leads_tie n f0 p1).trans h)
noncomputable def impl_Hops_1_code : Code := match Try.f166.body with | some c => c | none => .skip
def impl_Hops_1_ann : Ann := fun id => none
def impl_Hops_1_Ls (n : Nat) : Nat → Option (LSpec T) := fun id => none
theorem impl_Hops_1_tie (n : Nat) (q0 : Int) (a1 : List Int) (a2 : Int) : evF (T := T) (Phi n 22) (impl_Hops_1_Ls n) impl_Hops_1_ann n Try.f166 (sg 166) [vA T 3 q0, .ptr 41 a1, .ptr 3 a2] impl_Hops_1_dec = impl_Hops_1 n q0 a1 a2 := by kernel_rfl
theorem impl_Hops_1_lo (n : Nat) : LoopsOk (T := T) (Phi n 22) (impl_Hops_1_Ls n) impl_Hops_1_ann n impl_Hops_1_code := loopsOk_all (cs := []) (by kernel_rfl) trivial
theorem impl_Hops_1_ok (n : Nat) : EntOk Try.prog (ents n) (impl_Hops_1_ent n) := by
  intro hs ar y hg h
  replace h : impl_Hops_1_D n ar = some y := h
  unfold impl_Hops_1_D at h
  replace h := ocons_some h
  obtain ⟨a0, r0, rfl, h⟩ := h
  replace h := ocons_some h
  obtain ⟨a1, r1, rfl, h⟩ := h
  replace h := ocons_some h
  obtain ⟨a2, r2, rfl, h⟩ := h
  replace h := onil_some h
  obtain ⟨rfl, h⟩ := h
  obtain ⟨q0, qh0, h⟩ := obind_some h
  obtain ⟨a1, qh1, h⟩ := obind_some h
  obtain ⟨a2, qh2, h⟩ := obind_some h
  rw [argV_eq ok qh0, argP_eq qh1, argP_eq qh2]
  exact call_of (phiE_nat _ _) hs ok mixed Try.func166 (c := impl_Hops_1_code) (by kernel_rfl) (impl_Hops_1_lo n) (by kernel_rfl) (by kernel_rfl) (by kernel_rfl) impl_Hops_1_de ((impl_Hops_1_tie n q0 a1 a2).trans h)
noncomputable def slices_IndexFunc_int_int__impl_Hops_1_code : Code := match Try.f179.body with | some c => c | none => .skip
def slices_IndexFunc_int_int__impl_Hops_1_2_sv : List Sv := [.one (.arr 3), .one (.fnr 166 [41, 3]), .one (.int .i64), .one (.int .i64)]
def slices_IndexFunc_int_int__impl_Hops_1_2_so : List So := []
def slices_IndexFunc_int_int__impl_Hops_1_2_emb (c : List Int × List Int × Int × Int) (x : Int) : EVs T slices_IndexFunc_int_int__impl_Hops_1_2_sv × EOs T slices_IndexFunc_int_int__impl_Hops_1_2_so := ((c.1, (c.2.1, c.2.2.1, ()), c.2.2.2, x, ()), ())
def slices_IndexFunc_int_int__impl_Hops_1_2_prj (y : EVs T slices_IndexFunc_int_int__impl_Hops_1_2_sv × EOs T slices_IndexFunc_int_int__impl_Hops_1_2_so) : (List Int × List Int × Int × Int) × Int := ((y.1.1, y.1.2.1.1, y.1.2.1.2.1, y.1.2.2.1), (y.1.2.2.2.1))
def slices_IndexFunc_int_int__impl_Hops_1_2_b (n : Nat) {R : Type} (K : Ex → Sm.St T → Option R) (c : List Int × List Int × Int × Int) (x : Int) (J : Int → Option R) : Option R :=
  slices_IndexFunc_int_int__impl_Hops_1_L2 n (K (.exit 0) (stOf (T := T) [] [] [] [] () ())) (fun (y0 : Int) => K .ret (stOf (T := T) [4] [] [.one (.int .i64)] [] (y0, ()) ())) J c.1 c.2.1 c.2.2.1 c.2.2.2 x
def slices_IndexFunc_int_int__impl_Hops_1_2_sp (n : Nat) : LSpec T := mkSpec T ⟨[], [0, 1, 7, 8], []⟩ slices_IndexFunc_int_int__impl_Hops_1_2_sv slices_IndexFunc_int_int__impl_Hops_1_2_so (List Int × List Int × Int × Int) (Int) slices_IndexFunc_int_int__impl_Hops_1_2_emb slices_IndexFunc_int_int__impl_Hops_1_2_prj (slices_IndexFunc_int_int__impl_Hops_1_2_b n)
noncomputable def slices_IndexFunc_int_int__impl_Hops_1_2_c : Code := ((loopCodes slices_IndexFunc_int_int__impl_Hops_1_code)[0]?).getD .skip
def slices_IndexFunc_int_int__impl_Hops_1_ann : Ann := fun id => bif Nat.beq id 3000002 then some ⟨[], [], []⟩ else bif Nat.beq id 2000002 then some ⟨[], [4], []⟩ else none
def slices_IndexFunc_int_int__impl_Hops_1_Ls (n : Nat) : Nat → Option (LSpec T) := fun id => bif Nat.beq id 2 then some (slices_IndexFunc_int_int__impl_Hops_1_2_sp n) else none
theorem slices_IndexFunc_int_int__impl_Hops_1_2_le (n : Nat) : LoopEq (T := T) (Phi n 23) (slices_IndexFunc_int_int__impl_Hops_1_Ls n) slices_IndexFunc_int_int__impl_Hops_1_ann n slices_IndexFunc_int_int__impl_Hops_1_2_c (slices_IndexFunc_int_int__impl_Hops_1_2_sp n) := ⟨mkSpec_dec (fun y => rfl), fun c x => by kernel_rfl, fun K J c x => by kernel_rfl⟩
theorem slices_IndexFunc_int_int__impl_Hops_1_tie (n : Nat) (s0 : List Int) (f1c0 : List Int) (f1c1 : Int) : evF (T := T) (Phi n 23) (slices_IndexFunc_int_int__impl_Hops_1_Ls n) slices_IndexFunc_int_int__impl_Hops_1_ann n Try.f179 (sg 179) [vA T 41 s0, .fn 166 [.ptr 41 f1c0, .ptr 3 f1c1]] slices_IndexFunc_int_int__impl_Hops_1_dec = slices_IndexFunc_int_int__impl_Hops_1 n s0 f1c0 f1c1 := by kernel_rfl
theorem slices_IndexFunc_int_int__impl_Hops_1_lo (n : Nat) : LoopsOk (T := T) (Phi n 23) (slices_IndexFunc_int_int__impl_Hops_1_Ls n) slices_IndexFunc_int_int__impl_Hops_1_ann n slices_IndexFunc_int_int__impl_Hops_1_code := loopsOk_all (cs := [slices_IndexFunc_int_int__impl_Hops_1_2_c]) (by kernel_rfl) ⟨⟨_, by kernel_rfl, slices_IndexFunc_int_int__impl_Hops_1_2_le n⟩, trivial⟩
theorem slices_IndexFunc_int_int__impl_Hops_1_ok (n : Nat) : EntOk Try.prog (ents n) (slices_IndexFunc_int_int__impl_Hops_1_ent n) := by
  intro hs ar y hg h
  replace h : slices_IndexFunc_int_int__impl_Hops_1_D n ar = some y := h
  unfold slices_IndexFunc_int_int__impl_Hops_1_D at h
  split at h
  · obtain ⟨s0, qh0, h⟩ := obind_some h
    obtain ⟨f1c0, qh1, h⟩ := obind_some h
    obtain ⟨f1c1, qh2, h⟩ := obind_some h
    rw [argV_eq ok qh0, argP_eq qh1, argP_eq qh2] at hg ⊢
    cases (show [_] = [166] from natsEq_eq hg)
    exact call_of (phiE_nat _ _) hs ok mixed Try.func179 (c := slices_IndexFunc_int_int__impl_Hops_1_code) (by kernel_rfl) (slices_IndexFunc_int_int__impl_Hops_1_lo n) (by kernel_rfl) (by kernel_rfl) (by kernel_rfl) slices_IndexFunc_int_int__impl_Hops_1_de ((slices_IndexFunc_int_int__impl_Hops_1_tie n s0 f1c0 f1c1).trans h)
  · cases h
noncomputable def slices_ContainsFunc_int_int__impl_Hops_1_code : Code := match Try.f162.body with | some c => c | none => .skip
def slices_ContainsFunc_int_int__impl_Hops_1_ann : Ann := fun id => none
def slices_ContainsFunc_int_int__impl_Hops_1_Ls (n : Nat) : Nat → Option (LSpec T) := fun id => none
theorem slices_ContainsFunc_int_int__impl_Hops_1_tie (n : Nat) (s0 : List Int) (f1c0 : List Int) (f1c1 : Int) : evF (T := T) (Phi n 24) (slices_ContainsFunc_int_int__impl_Hops_1_Ls n) slices_ContainsFunc_int_int__impl_Hops_1_ann n Try.f162 (sg 162) [vA T 41 s0, .fn 166 [.ptr 41 f1c0, .ptr 3 f1c1]] slices_ContainsFunc_int_int__impl_Hops_1_dec = slices_ContainsFunc_int_int__impl_Hops_1 n s0 f1c0 f1c1 := by kernel_rfl
theorem slices_ContainsFunc_int_int__impl_Hops_1_lo (n : Nat) : LoopsOk (T := T) (Phi n 24) (slices_ContainsFunc_int_int__impl_Hops_1_Ls n) slices_ContainsFunc_int_int__impl_Hops_1_ann n slices_ContainsFunc_int_int__impl_Hops_1_code := loopsOk_all (cs := []) (by kernel_rfl) trivial
theorem slices_ContainsFunc_int_int__impl_Hops_1_ok (n : Nat) : EntOk Try.prog (ents n) (slices_ContainsFunc_int_int__impl_Hops_1_ent n) := by
  intro hs ar y hg h
  replace h : slices_ContainsFunc_int_int__impl_Hops_1_D n ar = some y := h
  unfold slices_ContainsFunc_int_int__impl_Hops_1_D at h
  split at h
  · obtain ⟨s0, qh0, h⟩ := obind_some h
    obtain ⟨f1c0, qh1, h⟩ := obind_some h
    obtain ⟨f1c1, qh2, h⟩ := obind_some h
    rw [argV_eq ok qh0, argP_eq qh1, argP_eq qh2] at hg ⊢
    cases (show [_] = [166] from natsEq_eq hg)
    exact call_of (phiE_nat _ _) hs ok mixed Try.func162 (c := slices_ContainsFunc_int_int__impl_Hops_1_code) (by kernel_rfl) (slices_ContainsFunc_int_int__impl_Hops_1_lo n) (by kernel_rfl) (by kernel_rfl) (by kernel_rfl) slices_ContainsFunc_int_int__impl_Hops_1_de ((slices_ContainsFunc_int_int__impl_Hops_1_tie n s0 f1c0 f1c1).trans h)
  · cases h
noncomputable def impl_Hops_code : Code := match Try.f126.body with | some c => c | none => .skip
def impl_Hops_5_sv : List Sv := [.one (.int .i64), .one (.ptr 3000000 0 0), .one (.ptr 3000001 0 0), .one (.int .i64), .one (.int .i64)]
def impl_Hops_5_so : List So := [.var [.int .i64, .int .i64, .arr 3], .var [.own 184 3 false], .arr 3 false]
def impl_Hops_5_emb (c : Int × Int × SFloor) (x : Int × List Int) : EVs T impl_Hops_5_sv × EOs T impl_Hops_5_so := ((c.1, (), (), c.2.1, x.1, ()), ((c.2.2.Wide, c.2.2.High, c.2.2.Ways, ()), ((), ()), x.2, ()))
def impl_Hops_5_prj (y : EVs T impl_Hops_5_sv × EOs T impl_Hops_5_so) : (Int × Int × SFloor) × (Int × List Int) := ((y.1.1, y.1.2.2.2.1, ((⟨y.2.1.1, y.2.1.2.1, y.2.1.2.2.1⟩ : SFloor) : SFloor)), (y.1.2.2.2.2.1, y.2.2.2.1))
def impl_Hops_5_b (n : Nat) {R : Type} (K : Ex → Sm.St T → Option R) (c : Int × Int × SFloor) (x : Int × List Int) (J : (Int × List Int) → Option R) : Option R :=
  impl_Hops_L5 n (fun (y2 : List Int) => K (.exit 0) (stOf (T := T) [1, 2, 6] [3000000, 3000001, 3000003] [.one (.int .i64), .one (.ptr 3000000 0 0), .one (.ptr 3000001 0 0)] [.var [.int .i64, .int .i64, .arr 3], .var [.own 3000003 3 false], .arr 3 false] (c.1, (), (), ()) ((c.2.2.Wide, c.2.2.High, c.2.2.Ways, ()), ((), ()), y2, ()))) (fun z0 z1 => J (z0, z1)) c.1 c.2.1 x.1 c.2.2 x.2
def impl_Hops_5_sp (n : Nat) : LSpec T := mkSpec T ⟨[((.reg 2), 3000000, 0), ((.reg 6), 3000001, 0), ((.cell 48 0), 3000002, 3)], [1, 2, 6, 25, 26], [3000000, 3000001, 184]⟩ impl_Hops_5_sv impl_Hops_5_so (Int × Int × SFloor) (Int × List Int) impl_Hops_5_emb impl_Hops_5_prj (impl_Hops_5_b n)
noncomputable def impl_Hops_5_c : Code := ((loopCodes impl_Hops_code)[0]?).getD .skip
def impl_Hops_11_sv : List Sv := [.one (.ptr 3000000 0 0), .one (.ptr 3000001 0 0), .one (.ptr 3000004 0 0), .one (.bool)]
def impl_Hops_11_so : List So := [.var [.int .i64, .int .i64, .arr 3], .var [.own 3000003 3 false], .arr 3 false, .var [.int .i64]]
def impl_Hops_11_emb (c : SFloor) (x : Bool × List Int × Int) : EVs T impl_Hops_11_sv × EOs T impl_Hops_11_so := (((), (), (), x.1, ()), ((c.Wide, c.High, c.Ways, ()), ((), ()), x.2.1, (x.2.2, ()), ()))
def impl_Hops_11_prj (y : EVs T impl_Hops_11_sv × EOs T impl_Hops_11_so) : SFloor × (Bool × List Int × Int) := ((((⟨y.2.1.1, y.2.1.2.1, y.2.1.2.2.1⟩ : SFloor) : SFloor)), (y.1.2.2.2.1, y.2.2.2.1, y.2.2.2.2.1.1))
def impl_Hops_11_b (n : Nat) {R : Type} (K : Ex → Sm.St T → Option R) (c : SFloor) (x : Bool × List Int × Int) (J : (Bool × List Int × Int) → Option R) : Option R :=
  impl_Hops_L11 n (fun (y0 : List Int) => K (.exit 2) (stOf (T := T) [6] [3000001, 3000003] [.one (.ptr 3000001 0 0)] [.var [.own 3000003 3 false], .arr 3 false] ((), ()) (((), ()), y0, ()))) (fun z0 z1 z2 => J (z0, z1, z2)) x.1 c x.2.1 x.2.2
def impl_Hops_11_sp (n : Nat) : LSpec T := mkSpec T ⟨[((.reg 2), 3000000, 0), ((.reg 6), 3000001, 0), ((.reg 8), 3000004, 0), ((.cell 3000001 0), 3000003, 3)], [2, 6, 8, 9], [3000000, 3000001, 3000003, 3000004]⟩ impl_Hops_11_sv impl_Hops_11_so (SFloor) (Bool × List Int × Int) impl_Hops_11_emb impl_Hops_11_prj (impl_Hops_11_b n)
noncomputable def impl_Hops_11_c : Code := ((loopCodes impl_Hops_code)[1]?).getD .skip
def impl_Hops_15_sv : List Sv := [.one (.ptr 3000000 0 0), .one (.ptr 3000001 0 0), .one (.ptr 3000004 0 0), .one (.bool), .one (.int .i64), .one (.int .i64)]
def impl_Hops_15_so : List So := [.var [.int .i64, .int .i64, .arr 3], .var [.own 3000003 3 false], .arr 3 false, .var [.int .i64]]
def impl_Hops_15_emb (c : Int × SFloor × Int) (x : Bool × Int × List Int) : EVs T impl_Hops_15_sv × EOs T impl_Hops_15_so := (((), (), (), x.1, c.1, x.2.1, ()), ((c.2.1.Wide, c.2.1.High, c.2.1.Ways, ()), ((), ()), x.2.2, (c.2.2, ()), ()))
def impl_Hops_15_prj (y : EVs T impl_Hops_15_sv × EOs T impl_Hops_15_so) : (Int × SFloor × Int) × (Bool × Int × List Int) := ((y.1.2.2.2.2.1, ((⟨y.2.1.1, y.2.1.2.1, y.2.1.2.2.1⟩ : SFloor) : SFloor), y.2.2.2.2.1.1), (y.1.2.2.2.1, y.1.2.2.2.2.2.1, y.2.2.2.1))
def impl_Hops_15_b (n : Nat) {R : Type} (K : Ex → Sm.St T → Option R) (c : Int × SFloor × Int) (x : Bool × Int × List Int) (J : (Bool × Int × List Int) → Option R) : Option R :=
  impl_Hops_L15 n (fun (y0 : Bool) (y2 : List Int) => K (.exit 4) (stOf (T := T) [2, 6, 8, 9] [3000000, 3000001, 3000003, 3000004] [.one (.ptr 3000000 0 0), .one (.ptr 3000001 0 0), .one (.ptr 3000004 0 0), .one (.bool)] [.var [.int .i64, .int .i64, .arr 3], .var [.own 3000003 3 false], .arr 3 false, .var [.int .i64]] ((), (), (), y0, ()) ((c.2.1.Wide, c.2.1.High, c.2.1.Ways, ()), ((), ()), y2, (c.2.2, ()), ()))) (fun z0 z1 z2 => J (z0, z1, z2)) x.1 c.1 x.2.1 c.2.1 x.2.2 c.2.2
def impl_Hops_15_sp (n : Nat) : LSpec T := mkSpec T ⟨[((.reg 2), 3000000, 0), ((.reg 6), 3000001, 0), ((.reg 8), 3000004, 0), ((.cell 3000001 0), 3000003, 3)], [2, 6, 8, 9, 40, 41], [3000000, 3000001, 3000003, 3000004]⟩ impl_Hops_15_sv impl_Hops_15_so (Int × SFloor × Int) (Bool × Int × List Int) impl_Hops_15_emb impl_Hops_15_prj (impl_Hops_15_b n)
noncomputable def impl_Hops_15_c : Code := ((loopCodes impl_Hops_code)[2]?).getD .skip
def impl_Hops_ann : Ann := fun id => bif Nat.beq id 3000005 then some ⟨[((.reg 2), 3000000, 0), ((.reg 6), 3000001, 0), ((.cell 3000001 0), 3000003, 3)], [1, 2, 6], [3000000, 3000001, 3000003]⟩ else bif Nat.beq id 5000011 then some ⟨[((.reg 6), 3000001, 0), ((.cell 3000001 0), 3000003, 3)], [6], [3000001, 3000003]⟩ else bif Nat.beq id 7000015 then some ⟨[((.reg 2), 3000000, 0), ((.reg 6), 3000001, 0), ((.reg 8), 3000004, 0), ((.cell 3000001 0), 3000003, 3)], [2, 6, 8, 9], [3000000, 3000001, 3000003, 3000004]⟩ else none
def impl_Hops_Ls (n : Nat) : Nat → Option (LSpec T) := fun id => bif Nat.beq id 5 then some (impl_Hops_5_sp n) else bif Nat.beq id 11 then some (impl_Hops_11_sp n) else bif Nat.beq id 15 then some (impl_Hops_15_sp n) else none
theorem impl_Hops_5_le (n : Nat) : LoopEq (T := T) (Phi n 25) (impl_Hops_Ls n) impl_Hops_ann n impl_Hops_5_c (impl_Hops_5_sp n) := ⟨mkSpec_dec (fun y => rfl), fun c x => by kernel_rfl, fun K J c x => by kernel_rfl⟩
theorem impl_Hops_11_le (n : Nat) : LoopEq (T := T) (Phi n 25) (impl_Hops_Ls n) impl_Hops_ann n impl_Hops_11_c (impl_Hops_11_sp n) := ⟨mkSpec_dec (fun y => rfl), fun c x => by kernel_rfl, fun K J c x => by kernel_rfl⟩
theorem impl_Hops_15_le (n : Nat) : LoopEq (T := T) (Phi n 25) (impl_Hops_Ls n) impl_Hops_ann n impl_Hops_15_c (impl_Hops_15_sp n) := ⟨mkSpec_dec (fun y => rfl), fun c x => by kernel_rfl, fun K J c x => by kernel_rfl⟩
theorem impl_Hops_tie (n : Nat) (f0 : SFloor) (goal1 : Int) : evF (T := T) (Phi n 25) (impl_Hops_Ls n) impl_Hops_ann n Try.f126 (sg 126) [vA T 71 f0, vA T 3 goal1] impl_Hops_dec = impl_Hops n f0 goal1 := by kernel_rfl
theorem impl_Hops_lo (n : Nat) : LoopsOk (T := T) (Phi n 25) (impl_Hops_Ls n) impl_Hops_ann n impl_Hops_code := loopsOk_all (cs := [impl_Hops_5_c, impl_Hops_11_c, impl_Hops_15_c]) (by kernel_rfl) ⟨⟨_, by kernel_rfl, impl_Hops_5_le n⟩, ⟨_, by kernel_rfl, impl_Hops_11_le n⟩, ⟨_, by kernel_rfl, impl_Hops_15_le n⟩, trivial⟩
theorem impl_Hops_ok (n : Nat) : EntOk Try.prog (ents n) (impl_Hops_ent n) := by
  intro hs ar y hg h
  replace h : impl_Hops_D n ar = some y := h
  unfold impl_Hops_D at h
  replace h := ocons_some h
  obtain ⟨a0, r0, rfl, h⟩ := h
  replace h := ocons_some h
  obtain ⟨a1, r1, rfl, h⟩ := h
  replace h := onil_some h
  obtain ⟨rfl, h⟩ := h
  obtain ⟨f0, qh0, h⟩ := obind_some h
  obtain ⟨goal1, qh1, h⟩ := obind_some h
  rw [argV_eq ok qh0, argV_eq ok qh1]
  exact call_of (phiE_nat _ _) hs ok mixed Try.func126 (c := impl_Hops_code) (by kernel_rfl) (impl_Hops_lo n) (by kernel_rfl) (by kernel_rfl) (by kernel_rfl) impl_Hops_de ((impl_Hops_tie n f0 goal1).trans h)
noncomputable def impl_Floor_want_code : Code := match Try.f123.body with | some c => c | none => .skip
def impl_Floor_want_5_sv : List Sv := [.one (.ptr 24 0 0), .one (.own 3000000 3 false), .one (.own 3000001 3 false), .one (.int .i64), .one (.int .i64)]
def impl_Floor_want_5_so : List So := [.var [.int .i64, .int .i64], .arr 3 false, .arr 3 false]
def impl_Floor_want_5_emb (c : Int × SCart × List Int × List Int) (x : Int) : EVs T impl_Floor_want_5_sv × EOs T impl_Floor_want_5_so := (((), (), (), c.1, x, ()), ((c.2.1.At, c.2.1.Goal, ()), c.2.2.1, c.2.2.2, ()))
def impl_Floor_want_5_prj (y : EVs T impl_Floor_want_5_sv × EOs T impl_Floor_want_5_so) : (Int × SCart × List Int × List Int) × Int := ((y.1.2.2.2.1, ((⟨y.2.1.1, y.2.1.2.1⟩ : SCart) : SCart), y.2.2.1, y.2.2.2.1), (y.1.2.2.2.2.1))
def impl_Floor_want_5_b (n : Nat) {R : Type} (K : Ex → Sm.St T → Option R) (c : Int × SCart × List Int × List Int) (x : Int) (J : Int → Option R) : Option R :=
  impl_Floor_want_L5 n (K (.exit 0) (stOf (T := T) [] [] [] [] () ())) (fun (y0 : Int) => K .ret (stOf (T := T) [4] [] [.one (.int .i64)] [] (y0, ()) ())) J c.1 x c.2.1 c.2.2.1 c.2.2.2
def impl_Floor_want_5_sp (n : Nat) : LSpec T := mkSpec T ⟨[((.reg 5), 3000000, 3), ((.reg 29), 3000001, 3)], [3, 5, 29, 30, 31], [24, 3000000, 3000001]⟩ impl_Floor_want_5_sv impl_Floor_want_5_so (Int × SCart × List Int × List Int) (Int) impl_Floor_want_5_emb impl_Floor_want_5_prj (impl_Floor_want_5_b n)
noncomputable def impl_Floor_want_5_c : Code := ((loopCodes impl_Floor_want_code)[0]?).getD .skip
def impl_Floor_want_ann : Ann := fun id => bif Nat.beq id 3000005 then some ⟨[], [], []⟩ else bif Nat.beq id 2000005 then some ⟨[], [4], []⟩ else none
def impl_Floor_want_Ls (n : Nat) : Nat → Option (LSpec T) := fun id => bif Nat.beq id 5 then some (impl_Floor_want_5_sp n) else none
theorem impl_Floor_want_5_le (n : Nat) : LoopEq (T := T) (Phi n 26) (impl_Floor_want_Ls n) impl_Floor_want_ann n impl_Floor_want_5_c (impl_Floor_want_5_sp n) := ⟨mkSpec_dec (fun y => rfl), fun c x => by kernel_rfl, fun K J c x => by kernel_rfl⟩
theorem impl_Floor_want_tie (n : Nat) (f0 : SFloor) (c1 : SCart) : evF (T := T) (Phi n 26) (impl_Floor_want_Ls n) impl_Floor_want_ann n Try.f123 (sg 123) [vA T 71 f0, vA T 81 c1] impl_Floor_want_dec = impl_Floor_want n f0 c1 := by kernel_rfl
theorem impl_Floor_want_lo (n : Nat) : LoopsOk (T := T) (Phi n 26) (impl_Floor_want_Ls n) impl_Floor_want_ann n impl_Floor_want_code := loopsOk_all (cs := [impl_Floor_want_5_c]) (by kernel_rfl) ⟨⟨_, by kernel_rfl, impl_Floor_want_5_le n⟩, trivial⟩
theorem impl_Floor_want_ok (n : Nat) : EntOk Try.prog (ents n) (impl_Floor_want_ent n) := by
  intro hs ar y hg h
  replace h : impl_Floor_want_D n ar = some y := h
  unfold impl_Floor_want_D at h
  replace h := ocons_some h
  obtain ⟨a0, r0, rfl, h⟩ := h
  replace h := ocons_some h
  obtain ⟨a1, r1, rfl, h⟩ := h
  replace h := onil_some h
  obtain ⟨rfl, h⟩ := h
  obtain ⟨f0, qh0, h⟩ := obind_some h
  obtain ⟨c1, qh1, h⟩ := obind_some h
  rw [argV_eq ok qh0, argV_eq ok qh1]
  exact call_of (phiE_nat _ _) hs ok mixed Try.func123 (c := impl_Floor_want_code) (by kernel_rfl) (impl_Floor_want_lo n) (by kernel_rfl) (by kernel_rfl) (by kernel_rfl) impl_Floor_want_de ((impl_Floor_want_tie n f0 c1).trans h)
noncomputable def impl_Round_1_code : Code := match Try.f124.body with | some c => c | none => .skip
def impl_Round_1_5_sv : List Sv := [.one (.int .i64), .one (.rptr 41 0), .one (.rptr 72 0), .one (.int .i64), .one (.arr 81), .one (.int .i64), .one (.int .i64)]
def impl_Round_1_5_so : List So := []
def impl_Round_1_5_emb (c : Int × List Int × List SCart × Int × List SCart × Int) (x : Int) : EVs T impl_Round_1_5_sv × EOs T impl_Round_1_5_so := ((c.1, c.2.1, c.2.2.1, c.2.2.2.1, c.2.2.2.2.1, c.2.2.2.2.2, x, ()), ())
def impl_Round_1_5_prj (y : EVs T impl_Round_1_5_sv × EOs T impl_Round_1_5_so) : (Int × List Int × List SCart × Int × List SCart × Int) × Int := ((y.1.1, y.1.2.1, y.1.2.2.1, y.1.2.2.2.1, y.1.2.2.2.2.1, y.1.2.2.2.2.2.1), (y.1.2.2.2.2.2.2.1))
def impl_Round_1_5_b (n : Nat) {R : Type} (K : Ex → Sm.St T → Option R) (c : Int × List Int × List SCart × Int × List SCart × Int) (x : Int) (J : Int → Option R) : Option R :=
  impl_Round_1_L5 n (K (.exit 0) (stOf (T := T) [] [] [] [] () ())) (fun (y0 : Bool) => K .ret (stOf (T := T) [4] [] [.one (.bool)] [] (y0, ()) ())) J c.1 c.2.1 c.2.2.1 c.2.2.2.1 c.2.2.2.2.1 c.2.2.2.2.2 x
def impl_Round_1_5_sp (n : Nat) : LSpec T := mkSpec T ⟨[], [0, 1, 2, 5, 14, 15, 16], []⟩ impl_Round_1_5_sv impl_Round_1_5_so (Int × List Int × List SCart × Int × List SCart × Int) (Int) impl_Round_1_5_emb impl_Round_1_5_prj (impl_Round_1_5_b n)
noncomputable def impl_Round_1_5_c : Code := ((loopCodes impl_Round_1_code)[0]?).getD .skip
def impl_Round_1_ann : Ann := fun id => bif Nat.beq id 3000005 then some ⟨[], [], []⟩ else bif Nat.beq id 2000005 then some ⟨[], [4], []⟩ else none
def impl_Round_1_Ls (n : Nat) : Nat → Option (LSpec T) := fun id => bif Nat.beq id 5 then some (impl_Round_1_5_sp n) else none
theorem impl_Round_1_5_le (n : Nat) : LoopEq (T := T) (Phi n 27) (impl_Round_1_Ls n) impl_Round_1_ann n impl_Round_1_5_c (impl_Round_1_5_sp n) := ⟨mkSpec_dec (fun y => rfl), fun c x => by kernel_rfl, fun K J c x => by kernel_rfl⟩
theorem impl_Round_1_tie (n : Nat) (i0 : Int) (a1 : List Int) (a2 : List SCart) : evF (T := T) (Phi n 27) (impl_Round_1_Ls n) impl_Round_1_ann n Try.f124 (sg 124) [vA T 3 i0, .ptr 41 a1, .ptr 72 a2] impl_Round_1_dec = impl_Round_1 n i0 a1 a2 := by kernel_rfl
theorem impl_Round_1_lo (n : Nat) : LoopsOk (T := T) (Phi n 27) (impl_Round_1_Ls n) impl_Round_1_ann n impl_Round_1_code := loopsOk_all (cs := [impl_Round_1_5_c]) (by kernel_rfl) ⟨⟨_, by kernel_rfl, impl_Round_1_5_le n⟩, trivial⟩
theorem impl_Round_1_ok (n : Nat) : EntOk Try.prog (ents n) (impl_Round_1_ent n) := by
  intro hs ar y hg h
  replace h : impl_Round_1_D n ar = some y := h
  unfold impl_Round_1_D at h
  replace h := ocons_some h
  obtain ⟨a0, r0, rfl, h⟩ := h
  replace h := ocons_some h
  obtain ⟨a1, r1, rfl, h⟩ := h
  replace h := ocons_some h
  obtain ⟨a2, r2, rfl, h⟩ := h
  replace h := onil_some h
  obtain ⟨rfl, h⟩ := h
  obtain ⟨i0, qh0, h⟩ := obind_some h
  obtain ⟨a1, qh1, h⟩ := obind_some h
  obtain ⟨a2, qh2, h⟩ := obind_some h
  rw [argV_eq ok qh0, argP_eq qh1, argP_eq qh2]
  exact call_of (phiE_nat _ _) hs ok mixed Try.func124 (c := impl_Round_1_code) (by kernel_rfl) (impl_Round_1_lo n) (by kernel_rfl) (by kernel_rfl) (by kernel_rfl) impl_Round_1_de ((impl_Round_1_tie n i0 a1 a2).trans h)
noncomputable def impl_own_impl_Cart_code : Code := match Try.f125.body with | some c => c | none => .skip
def impl_own_impl_Cart_ann : Ann := fun id => none
def impl_own_impl_Cart_Ls (n : Nat) : Nat → Option (LSpec T) := fun id => none
theorem impl_own_impl_Cart_tie (n : Nat) (l0 : List SCart) : evF (T := T) (Phi n 28) (impl_own_impl_Cart_Ls n) impl_own_impl_Cart_ann n Try.f125 (sg 125) [vA T 72 l0] impl_own_impl_Cart_dec = impl_own_impl_Cart n l0 := by kernel_rfl
theorem impl_own_impl_Cart_lo (n : Nat) : LoopsOk (T := T) (Phi n 28) (impl_own_impl_Cart_Ls n) impl_own_impl_Cart_ann n impl_own_impl_Cart_code := loopsOk_all (cs := []) (by kernel_rfl) trivial
theorem impl_own_impl_Cart_ok (n : Nat) : EntOk Try.prog (ents n) (impl_own_impl_Cart_ent n) := by
  intro hs ar y hg h
  replace h : impl_own_impl_Cart_D n ar = some y := h
  unfold impl_own_impl_Cart_D at h
  replace h := ocons_some h
  obtain ⟨a0, r0, rfl, h⟩ := h
  replace h := onil_some h
  obtain ⟨rfl, h⟩ := h
  obtain ⟨l0, qh0, h⟩ := obind_some h
  rw [argV_eq ok qh0]
  exact call_of (phiE_nat _ _) hs ok mixed Try.func125 (c := impl_own_impl_Cart_code) (by kernel_rfl) (impl_own_impl_Cart_lo n) (by kernel_rfl) (by kernel_rfl) (by kernel_rfl) impl_own_impl_Cart_de ((impl_own_impl_Cart_tie n l0).trans h)
noncomputable def impl_own_int_code : Code := match Try.f99.body with | some c => c | none => .skip
def impl_own_int_ann : Ann := fun id => none
def impl_own_int_Ls (n : Nat) : Nat → Option (LSpec T) := fun id => none
theorem impl_own_int_tie (n : Nat) (l0 : List Int) : evF (T := T) (Phi n 29) (impl_own_int_Ls n) impl_own_int_ann n Try.f99 (sg 99) [vA T 41 l0] impl_own_int_dec = impl_own_int n l0 := by kernel_rfl
theorem impl_own_int_lo (n : Nat) : LoopsOk (T := T) (Phi n 29) (impl_own_int_Ls n) impl_own_int_ann n impl_own_int_code := loopsOk_all (cs := []) (by kernel_rfl) trivial
theorem impl_own_int_ok (n : Nat) : EntOk Try.prog (ents n) (impl_own_int_ent n) := by
  intro hs ar y hg h
  replace h : impl_own_int_D n ar = some y := h
  unfold impl_own_int_D at h
  replace h := ocons_some h
  obtain ⟨a0, r0, rfl, h⟩ := h
  replace h := onil_some h
  obtain ⟨rfl, h⟩ := h
  obtain ⟨l0, qh0, h⟩ := obind_some h
  rw [argV_eq ok qh0]
  exact call_of (phiE_nat _ _) hs ok mixed Try.func99 (c := impl_own_int_code) (by kernel_rfl) (impl_own_int_lo n) (by kernel_rfl) (by kernel_rfl) (by kernel_rfl) impl_own_int_de ((impl_own_int_tie n l0).trans h)
noncomputable def impl_Round_code : Code := match Try.f45.body with | some c => c | none => .skip
def impl_Round_5_sv : List Sv := [.one (.ptr 16 0 0), .one (.ptr 24 0 0), .one (.ptr 56 0 0), .one (.arr 81), .one (.int .i64), .one (.int .i64)]
def impl_Round_5_so : List So := [.var [.int .i64, .int .i64, .arr 3], .var [.arr 81], .var [.own 3000000 3 false], .arr 3 false]
def impl_Round_5_emb (c : List SCart × Int × SFloor × List SCart) (x : Int × List Int) : EVs T impl_Round_5_sv × EOs T impl_Round_5_so := (((), (), (), c.1, c.2.1, x.1, ()), ((c.2.2.1.Wide, c.2.2.1.High, c.2.2.1.Ways, ()), (c.2.2.2, ()), ((), ()), x.2, ()))
def impl_Round_5_prj (y : EVs T impl_Round_5_sv × EOs T impl_Round_5_so) : (List SCart × Int × SFloor × List SCart) × (Int × List Int) := ((y.1.2.2.2.1, y.1.2.2.2.2.1, ((⟨y.2.1.1, y.2.1.2.1, y.2.1.2.2.1⟩ : SFloor) : SFloor), y.2.2.1.1), (y.1.2.2.2.2.2.1, y.2.2.2.2.1))
def impl_Round_5_b (n : Nat) {R : Type} (K : Ex → Sm.St T → Option R) (c : List SCart × Int × SFloor × List SCart) (x : Int × List Int) (J : (Int × List Int) → Option R) : Option R :=
  impl_Round_L5 n (fun (y1 : List Int) => K (.exit 0) (stOf (T := T) [3, 7] [24, 56, 3000000] [.one (.ptr 24 0 0), .one (.ptr 56 0 0)] [.var [.arr 81], .var [.own 3000000 3 false], .arr 3 false] ((), (), ()) ((c.2.2.2, ()), ((), ()), y1, ()))) (fun z0 z1 => J (z0, z1)) c.1 c.2.1 x.1 c.2.2.1 c.2.2.2 x.2
def impl_Round_5_sp (n : Nat) : LSpec T := mkSpec T ⟨[((.cell 56 0), 3000000, 3)], [2, 3, 7, 23, 24, 25], [16, 24, 56, 3000000]⟩ impl_Round_5_sv impl_Round_5_so (List SCart × Int × SFloor × List SCart) (Int × List Int) impl_Round_5_emb impl_Round_5_prj (impl_Round_5_b n)
noncomputable def impl_Round_5_c : Code := ((loopCodes impl_Round_code)[0]?).getD .skip
def impl_Round_10_sv : List Sv := [.one (.ptr 24 0 0), .one (.ptr 56 0 0), .one (.fn 124 [56, 24])]
def impl_Round_10_so : List So := [.var [.arr 81], .var [.own 3000000 3 false], .arr 3 false]
def impl_Round_10_emb (c : List SCart) (x : List Int) : EVs T impl_Round_10_sv × EOs T impl_Round_10_so := (((), (), (), ()), ((c, ()), ((), ()), x, ()))
def impl_Round_10_prj (y : EVs T impl_Round_10_sv × EOs T impl_Round_10_so) : List SCart × List Int := ((y.2.1.1), (y.2.2.2.1))
def impl_Round_10_b (n : Nat) {R : Type} (K : Ex → Sm.St T → Option R) (c : List SCart) (x : List Int) (J : (List Int) → Option R) : Option R :=
  impl_Round_L10 n (fun (y1 : List Int) => K (.exit 2) (stOf (T := T) [3, 7] [24, 56, 3000000] [.one (.ptr 24 0 0), .one (.ptr 56 0 0)] [.var [.arr 81], .var [.own 3000000 3 false], .arr 3 false] ((), (), ()) ((c, ()), ((), ()), y1, ()))) J c x
def impl_Round_10_sp (n : Nat) : LSpec T := mkSpec T ⟨[((.cell 56 0), 3000000, 3)], [3, 7, 10], [24, 56, 3000000]⟩ impl_Round_10_sv impl_Round_10_so (List SCart) (List Int) impl_Round_10_emb impl_Round_10_prj (impl_Round_10_b n)
noncomputable def impl_Round_10_c : Code := ((loopCodes impl_Round_code)[1]?).getD .skip
def impl_Round_11_sv : List Sv := [.one (.ptr 24 0 0), .one (.ptr 56 0 0), .one (.fn 124 [56, 24]), .one (.int .i64)]
def impl_Round_11_so : List So := [.var [.arr 81], .var [.own 3000000 3 false], .arr 3 false]
def impl_Round_11_emb (c : List SCart × List Int) (x : Int) : EVs T impl_Round_11_sv × EOs T impl_Round_11_so := (((), (), (), x, ()), ((c.1, ()), ((), ()), c.2, ()))
def impl_Round_11_prj (y : EVs T impl_Round_11_sv × EOs T impl_Round_11_so) : (List SCart × List Int) × Int := ((y.2.1.1, y.2.2.2.1), (y.1.2.2.2.1))
def impl_Round_11_b (n : Nat) {R : Type} (K : Ex → Sm.St T → Option R) (c : List SCart × List Int) (x : Int) (J : Int → Option R) : Option R :=
  impl_Round_L11 n (fun (y0 : Int) => K (.exit 4) (stOf (T := T) [3, 7, 10, 11] [24, 56, 3000000] [.one (.ptr 24 0 0), .one (.ptr 56 0 0), .one (.fn 124 [56, 24]), .one (.int .i64)] [.var [.arr 81], .var [.own 3000000 3 false], .arr 3 false] ((), (), (), y0, ()) ((c.1, ()), ((), ()), c.2, ()))) J x c.1 c.2
def impl_Round_11_sp (n : Nat) : LSpec T := mkSpec T ⟨[((.cell 56 0), 3000000, 3)], [3, 7, 10, 11], [24, 56, 3000000]⟩ impl_Round_11_sv impl_Round_11_so (List SCart × List Int) (Int) impl_Round_11_emb impl_Round_11_prj (impl_Round_11_b n)
noncomputable def impl_Round_11_c : Code := ((loopCodes impl_Round_code)[2]?).getD .skip
def impl_Round_18_sv : List Sv := [.one (.own 3000001 81 false), .one (.own 3000002 3 false), .one (.own 3000003 3 false), .one (.int .i64), .one (.int .i64)]
def impl_Round_18_so : List So := [.arr 81 false, .arr 3 false, .arr 3 false]
def impl_Round_18_emb (c : Int × List Int) (x : Int × List SCart × List Int) : EVs T impl_Round_18_sv × EOs T impl_Round_18_so := (((), (), (), c.1, x.1, ()), (x.2.1, x.2.2, c.2, ()))
def impl_Round_18_prj (y : EVs T impl_Round_18_sv × EOs T impl_Round_18_so) : (Int × List Int) × (Int × List SCart × List Int) := ((y.1.2.2.2.1, y.2.2.2.1), (y.1.2.2.2.2.1, y.2.1, y.2.2.1))
def impl_Round_18_b (n : Nat) {R : Type} (K : Ex → Sm.St T → Option R) (c : Int × List Int) (x : Int × List SCart × List Int) (J : (Int × List SCart × List Int) → Option R) : Option R :=
  impl_Round_L18 n (fun (y0 : List SCart) (y1 : List Int) => K (.exit 6) (stOf (T := T) [12, 13] [3000001, 3000002] [.one (.own 3000001 81 false), .one (.own 3000002 3 false)] [.arr 81 false, .arr 3 false] ((), (), ()) (y0, y1, ()))) (fun z0 z1 z2 => J (z0, z1, z2)) c.1 x.1 x.2.1 x.2.2 c.2
def impl_Round_18_sp (n : Nat) : LSpec T := mkSpec T ⟨[((.reg 12), 3000001, 81), ((.reg 13), 3000002, 3), ((.reg 59), 3000003, 3)], [12, 13, 59, 60, 61], [3000001, 3000002, 3000003]⟩ impl_Round_18_sv impl_Round_18_so (Int × List Int) (Int × List SCart × List Int) impl_Round_18_emb impl_Round_18_prj (impl_Round_18_b n)
noncomputable def impl_Round_18_c : Code := ((loopCodes impl_Round_code)[3]?).getD .skip
def impl_Round_ann : Ann := fun id => bif Nat.beq id 3000005 then some ⟨[((.cell 56 0), 3000000, 3)], [3, 7], [24, 56, 3000000]⟩ else bif Nat.beq id 5000010 then some ⟨[((.cell 56 0), 3000000, 3)], [3, 7], [24, 56, 3000000]⟩ else bif Nat.beq id 7000011 then some ⟨[((.cell 56 0), 3000000, 3)], [3, 7, 10, 11], [24, 56, 3000000]⟩ else bif Nat.beq id 9000018 then some ⟨[((.reg 12), 3000001, 81), ((.reg 13), 3000002, 3)], [12, 13], [3000001, 3000002]⟩ else none
def impl_Round_Ls (n : Nat) : Nat → Option (LSpec T) := fun id => bif Nat.beq id 5 then some (impl_Round_5_sp n) else bif Nat.beq id 10 then some (impl_Round_10_sp n) else bif Nat.beq id 11 then some (impl_Round_11_sp n) else bif Nat.beq id 18 then some (impl_Round_18_sp n) else none
theorem impl_Round_5_le (n : Nat) : LoopEq (T := T) (Phi n 30) (impl_Round_Ls n) impl_Round_ann n impl_Round_5_c (impl_Round_5_sp n) := ⟨mkSpec_dec (fun y => rfl), fun c x => by kernel_rfl, fun K J c x => by kernel_rfl⟩
theorem impl_Round_10_le (n : Nat) : LoopEq (T := T) (Phi n 30) (impl_Round_Ls n) impl_Round_ann n impl_Round_10_c (impl_Round_10_sp n) := ⟨mkSpec_dec (fun y => rfl), fun c x => by kernel_rfl, fun K J c x => by kernel_rfl⟩
theorem impl_Round_11_le (n : Nat) : LoopEq (T := T) (Phi n 30) (impl_Round_Ls n) impl_Round_ann n impl_Round_11_c (impl_Round_11_sp n) := ⟨mkSpec_dec (fun y => rfl), fun c x => by kernel_rfl, fun K J c x => by kernel_rfl⟩
theorem impl_Round_18_le (n : Nat) : LoopEq (T := T) (Phi n 30) (impl_Round_Ls n) impl_Round_ann n impl_Round_18_c (impl_Round_18_sp n) := ⟨mkSpec_dec (fun y => rfl), fun c x => by kernel_rfl, fun K J c x => by kernel_rfl⟩
theorem impl_Round_tie (n : Nat) (f0 : SFloor) (carts1 : List SCart) : evF (T := T) (Phi n 30) (impl_Round_Ls n) impl_Round_ann n Try.f45 (sg 45) [vA T 71 f0, vA T 72 carts1] impl_Round_dec = impl_Round n f0 carts1 := by kernel_rfl
theorem impl_Round_lo (n : Nat) : LoopsOk (T := T) (Phi n 30) (impl_Round_Ls n) impl_Round_ann n impl_Round_code := loopsOk_all (cs := [impl_Round_5_c, impl_Round_10_c, impl_Round_11_c, impl_Round_18_c]) (by kernel_rfl) ⟨⟨_, by kernel_rfl, impl_Round_5_le n⟩, ⟨_, by kernel_rfl, impl_Round_10_le n⟩, ⟨_, by kernel_rfl, impl_Round_11_le n⟩, ⟨_, by kernel_rfl, impl_Round_18_le n⟩, trivial⟩
theorem impl_Round_ok (n : Nat) : EntOk Try.prog (ents n) (impl_Round_ent n) := by
  intro hs ar y hg h
  replace h : impl_Round_D n ar = some y := h
  unfold impl_Round_D at h
  replace h := ocons_some h
  obtain ⟨a0, r0, rfl, h⟩ := h
  replace h := ocons_some h
  obtain ⟨a1, r1, rfl, h⟩ := h
  replace h := onil_some h
  obtain ⟨rfl, h⟩ := h
  obtain ⟨f0, qh0, h⟩ := obind_some h
  obtain ⟨carts1, qh1, h⟩ := obind_some h
  rw [argV_eq ok qh0, argV_eq ok qh1]
  exact call_of (phiE_nat _ _) hs ok mixed Try.func45 (c := impl_Round_code) (by kernel_rfl) (impl_Round_lo n) (by kernel_rfl) (by kernel_rfl) (by kernel_rfl) impl_Round_de ((impl_Round_tie n f0 carts1).trans h)
noncomputable def slices_Index_int_int_code : Code := match Try.f167.body with | some c => c | none => .skip
def slices_Index_int_int_2_sv : List Sv := [.one (.arr 3), .one (.int .i64), .one (.int .i64), .one (.int .i64)]
def slices_Index_int_int_2_so : List So := []
def slices_Index_int_int_2_emb (c : List Int × Int × Int) (x : Int) : EVs T slices_Index_int_int_2_sv × EOs T slices_Index_int_int_2_so := ((c.1, c.2.1, c.2.2, x, ()), ())
def slices_Index_int_int_2_prj (y : EVs T slices_Index_int_int_2_sv × EOs T slices_Index_int_int_2_so) : (List Int × Int × Int) × Int := ((y.1.1, y.1.2.1, y.1.2.2.1), (y.1.2.2.2.1))
def slices_Index_int_int_2_b (n : Nat) {R : Type} (K : Ex → Sm.St T → Option R) (c : List Int × Int × Int) (x : Int) (J : Int → Option R) : Option R :=
  slices_Index_int_int_L2 n (K (.exit 0) (stOf (T := T) [] [] [] [] () ())) (fun (y0 : Int) => K .ret (stOf (T := T) [4] [] [.one (.int .i64)] [] (y0, ()) ())) J c.1 c.2.1 c.2.2 x
def slices_Index_int_int_2_sp (n : Nat) : LSpec T := mkSpec T ⟨[], [0, 1, 7, 8], []⟩ slices_Index_int_int_2_sv slices_Index_int_int_2_so (List Int × Int × Int) (Int) slices_Index_int_int_2_emb slices_Index_int_int_2_prj (slices_Index_int_int_2_b n)
noncomputable def slices_Index_int_int_2_c : Code := ((loopCodes slices_Index_int_int_code)[0]?).getD .skip
def slices_Index_int_int_ann : Ann := fun id => bif Nat.beq id 3000002 then some ⟨[], [], []⟩ else bif Nat.beq id 2000002 then some ⟨[], [4], []⟩ else none
def slices_Index_int_int_Ls (n : Nat) : Nat → Option (LSpec T) := fun id => bif Nat.beq id 2 then some (slices_Index_int_int_2_sp n) else none
theorem slices_Index_int_int_2_le (n : Nat) : LoopEq (T := T) (Phi n 31) (slices_Index_int_int_Ls n) slices_Index_int_int_ann n slices_Index_int_int_2_c (slices_Index_int_int_2_sp n) := ⟨mkSpec_dec (fun y => rfl), fun c x => by kernel_rfl, fun K J c x => by kernel_rfl⟩
theorem slices_Index_int_int_tie (n : Nat) (s0 : List Int) (v1 : Int) : evF (T := T) (Phi n 31) (slices_Index_int_int_Ls n) slices_Index_int_int_ann n Try.f167 (sg 167) [vA T 41 s0, vA T 3 v1] slices_Index_int_int_dec = slices_Index_int_int n s0 v1 := by kernel_rfl
theorem slices_Index_int_int_lo (n : Nat) : LoopsOk (T := T) (Phi n 31) (slices_Index_int_int_Ls n) slices_Index_int_int_ann n slices_Index_int_int_code := loopsOk_all (cs := [slices_Index_int_int_2_c]) (by kernel_rfl) ⟨⟨_, by kernel_rfl, slices_Index_int_int_2_le n⟩, trivial⟩
theorem slices_Index_int_int_ok (n : Nat) : EntOk Try.prog (ents n) (slices_Index_int_int_ent n) := by
  intro hs ar y hg h
  replace h : slices_Index_int_int_D n ar = some y := h
  unfold slices_Index_int_int_D at h
  replace h := ocons_some h
  obtain ⟨a0, r0, rfl, h⟩ := h
  replace h := ocons_some h
  obtain ⟨a1, r1, rfl, h⟩ := h
  replace h := onil_some h
  obtain ⟨rfl, h⟩ := h
  obtain ⟨s0, qh0, h⟩ := obind_some h
  obtain ⟨v1, qh1, h⟩ := obind_some h
  rw [argV_eq ok qh0, argV_eq ok qh1]
  exact call_of (phiE_nat _ _) hs ok mixed Try.func167 (c := slices_Index_int_int_code) (by kernel_rfl) (slices_Index_int_int_lo n) (by kernel_rfl) (by kernel_rfl) (by kernel_rfl) slices_Index_int_int_de ((slices_Index_int_int_tie n s0 v1).trans h)
noncomputable def slices_Contains_int_int_code : Code := match Try.f127.body with | some c => c | none => .skip
def slices_Contains_int_int_ann : Ann := fun id => none
def slices_Contains_int_int_Ls (n : Nat) : Nat → Option (LSpec T) := fun id => none
theorem slices_Contains_int_int_tie (n : Nat) (s0 : List Int) (v1 : Int) : evF (T := T) (Phi n 32) (slices_Contains_int_int_Ls n) slices_Contains_int_int_ann n Try.f127 (sg 127) [vA T 41 s0, vA T 3 v1] slices_Contains_int_int_dec = slices_Contains_int_int n s0 v1 := by kernel_rfl
theorem slices_Contains_int_int_lo (n : Nat) : LoopsOk (T := T) (Phi n 32) (slices_Contains_int_int_Ls n) slices_Contains_int_int_ann n slices_Contains_int_int_code := loopsOk_all (cs := []) (by kernel_rfl) trivial
theorem slices_Contains_int_int_ok (n : Nat) : EntOk Try.prog (ents n) (slices_Contains_int_int_ent n) := by
  intro hs ar y hg h
  replace h : slices_Contains_int_int_D n ar = some y := h
  unfold slices_Contains_int_int_D at h
  replace h := ocons_some h
  obtain ⟨a0, r0, rfl, h⟩ := h
  replace h := ocons_some h
  obtain ⟨a1, r1, rfl, h⟩ := h
  replace h := onil_some h
  obtain ⟨rfl, h⟩ := h
  obtain ⟨s0, qh0, h⟩ := obind_some h
  obtain ⟨v1, qh1, h⟩ := obind_some h
  rw [argV_eq ok qh0, argV_eq ok qh1]
  exact call_of (phiE_nat _ _) hs ok mixed Try.func127 (c := slices_Contains_int_int_code) (by kernel_rfl) (slices_Contains_int_int_lo n) (by kernel_rfl) (by kernel_rfl) (by kernel_rfl) slices_Contains_int_int_de ((slices_Contains_int_int_tie n s0 v1).trans h)
noncomputable def impl_Stuck_code : Code := match Try.f46.body with | some c => c | none => .skip
def impl_Stuck_6_sv : List Sv := [.one (.ptr 16 0 0), .one (.own 3000000 3 false), .one (.own 3000001 3 false), .one (.arr 81), .one (.int .i64), .one (.int .i64)]
def impl_Stuck_6_so : List So := [.var [.int .i64, .int .i64, .arr 3], .arr 3 false, .arr 3 false]
def impl_Stuck_6_emb (c : List SCart × Int × SFloor × List Int) (x : Int × List Int) : EVs T impl_Stuck_6_sv × EOs T impl_Stuck_6_so := (((), (), (), c.1, c.2.1, x.1, ()), ((c.2.2.1.Wide, c.2.2.1.High, c.2.2.1.Ways, ()), c.2.2.2, x.2, ()))
def impl_Stuck_6_prj (y : EVs T impl_Stuck_6_sv × EOs T impl_Stuck_6_so) : (List SCart × Int × SFloor × List Int) × (Int × List Int) := ((y.1.2.2.2.1, y.1.2.2.2.2.1, ((⟨y.2.1.1, y.2.1.2.1, y.2.1.2.2.1⟩ : SFloor) : SFloor), y.2.2.1), (y.1.2.2.2.2.2.1, y.2.2.2.1))
def impl_Stuck_6_b (n : Nat) {R : Type} (K : Ex → Sm.St T → Option R) (c : List SCart × Int × SFloor × List Int) (x : Int × List Int) (J : (Int × List Int) → Option R) : Option R :=
  impl_Stuck_L6 n (fun (y0 : List Int) => K (.exit 0) (stOf (T := T) [9] [3000001] [.one (.own 3000001 3 false)] [.arr 3 false] ((), ()) (y0, ()))) (fun z0 z1 => J (z0, z1)) c.1 c.2.1 x.1 c.2.2.1 c.2.2.2 x.2
def impl_Stuck_6_sp (n : Nat) : LSpec T := mkSpec T ⟨[((.reg 7), 3000000, 3), ((.reg 9), 3000001, 3)], [2, 7, 9, 23, 24, 25], [16, 3000000, 3000001]⟩ impl_Stuck_6_sv impl_Stuck_6_so (List SCart × Int × SFloor × List Int) (Int × List Int) impl_Stuck_6_emb impl_Stuck_6_prj (impl_Stuck_6_b n)
noncomputable def impl_Stuck_6_c : Code := ((loopCodes impl_Stuck_code)[0]?).getD .skip
def impl_Stuck_ann : Ann := fun id => bif Nat.beq id 3000006 then some ⟨[((.reg 9), 3000001, 3)], [9], [3000001]⟩ else none
def impl_Stuck_Ls (n : Nat) : Nat → Option (LSpec T) := fun id => bif Nat.beq id 6 then some (impl_Stuck_6_sp n) else none
theorem impl_Stuck_6_le (n : Nat) : LoopEq (T := T) (Phi n 33) (impl_Stuck_Ls n) impl_Stuck_ann n impl_Stuck_6_c (impl_Stuck_6_sp n) := ⟨mkSpec_dec (fun y => rfl), fun c x => by kernel_rfl, fun K J c x => by kernel_rfl⟩
theorem impl_Stuck_tie (n : Nat) (f0 : SFloor) (carts1 : List SCart) : evF (T := T) (Phi n 33) (impl_Stuck_Ls n) impl_Stuck_ann n Try.f46 (sg 46) [vA T 71 f0, vA T 72 carts1] impl_Stuck_dec = impl_Stuck n f0 carts1 := by kernel_rfl
theorem impl_Stuck_lo (n : Nat) : LoopsOk (T := T) (Phi n 33) (impl_Stuck_Ls n) impl_Stuck_ann n impl_Stuck_code := loopsOk_all (cs := [impl_Stuck_6_c]) (by kernel_rfl) ⟨⟨_, by kernel_rfl, impl_Stuck_6_le n⟩, trivial⟩
theorem impl_Stuck_ok (n : Nat) : EntOk Try.prog (ents n) (impl_Stuck_ent n) := by
  intro hs ar y hg h
  replace h : impl_Stuck_D n ar = some y := h
  unfold impl_Stuck_D at h
  replace h := ocons_some h
  obtain ⟨a0, r0, rfl, h⟩ := h
  replace h := ocons_some h
  obtain ⟨a1, r1, rfl, h⟩ := h
  replace h := onil_some h
  obtain ⟨rfl, h⟩ := h
  obtain ⟨f0, qh0, h⟩ := obind_some h
  obtain ⟨carts1, qh1, h⟩ := obind_some h
  rw [argV_eq ok qh0, argV_eq ok qh1]
  exact call_of (phiE_nat _ _) hs ok mixed Try.func46 (c := impl_Stuck_code) (by kernel_rfl) (impl_Stuck_lo n) (by kernel_rfl) (by kernel_rfl) (by kernel_rfl) impl_Stuck_de ((impl_Stuck_tie n f0 carts1).trans h)
noncomputable def laws_within_code : Code := match Try.f47.body with | some c => c | none => .skip
def laws_within_2_sv : List Sv := [.one (.arr 3), .one (.int .i64), .one (.int .i64)]
def laws_within_2_so : List So := []
def laws_within_2_emb (c : List Int × Int) (x : Int) : EVs T laws_within_2_sv × EOs T laws_within_2_so := ((c.1, c.2, x, ()), ())
def laws_within_2_prj (y : EVs T laws_within_2_sv × EOs T laws_within_2_so) : (List Int × Int) × Int := ((y.1.1, y.1.2.1), (y.1.2.2.1))
def laws_within_2_b (n : Nat) {R : Type} (K : Ex → Sm.St T → Option R) (c : List Int × Int) (x : Int) (J : Int → Option R) : Option R :=
  laws_within_L2 n (K (.exit 0) (stOf (T := T) [] [] [] [] () ())) (fun (y0 : Bool) => K .ret (stOf (T := T) [4] [] [.one (.bool)] [] (y0, ()) ())) J c.1 c.2 x
def laws_within_2_sp (n : Nat) : LSpec T := mkSpec T ⟨[], [0, 1, 5], []⟩ laws_within_2_sv laws_within_2_so (List Int × Int) (Int) laws_within_2_emb laws_within_2_prj (laws_within_2_b n)
noncomputable def laws_within_2_c : Code := ((loopCodes laws_within_code)[0]?).getD .skip
def laws_within_ann : Ann := fun id => bif Nat.beq id 3000002 then some ⟨[], [], []⟩ else bif Nat.beq id 2000002 then some ⟨[], [4], []⟩ else none
def laws_within_Ls (n : Nat) : Nat → Option (LSpec T) := fun id => bif Nat.beq id 2 then some (laws_within_2_sp n) else none
theorem laws_within_2_le (n : Nat) : LoopEq (T := T) (Phi n 34) (laws_within_Ls n) laws_within_ann n laws_within_2_c (laws_within_2_sp n) := ⟨mkSpec_dec (fun y => rfl), fun c x => by kernel_rfl, fun K J c x => by kernel_rfl⟩
theorem laws_within_tie (n : Nat) (list0 : List Int) (x1 : Int) : evF (T := T) (Phi n 34) (laws_within_Ls n) laws_within_ann n Try.f47 (sg 47) [vA T 41 list0, vA T 3 x1] laws_within_dec = laws_within n list0 x1 := by kernel_rfl
theorem laws_within_lo (n : Nat) : LoopsOk (T := T) (Phi n 34) (laws_within_Ls n) laws_within_ann n laws_within_code := loopsOk_all (cs := [laws_within_2_c]) (by kernel_rfl) ⟨⟨_, by kernel_rfl, laws_within_2_le n⟩, trivial⟩
theorem laws_within_ok (n : Nat) : EntOk Try.prog (ents n) (laws_within_ent n) := by
  intro hs ar y hg h
  replace h : laws_within_D n ar = some y := h
  unfold laws_within_D at h
  replace h := ocons_some h
  obtain ⟨a0, r0, rfl, h⟩ := h
  replace h := ocons_some h
  obtain ⟨a1, r1, rfl, h⟩ := h
  replace h := onil_some h
  obtain ⟨rfl, h⟩ := h
  obtain ⟨list0, qh0, h⟩ := obind_some h
  obtain ⟨x1, qh1, h⟩ := obind_some h
  rw [argV_eq ok qh0, argV_eq ok qh1]
  exact call_of (phiE_nat _ _) hs ok mixed Try.func47 (c := laws_within_code) (by kernel_rfl) (laws_within_lo n) (by kernel_rfl) (by kernel_rfl) (by kernel_rfl) laws_within_de ((laws_within_tie n list0 x1).trans h)
noncomputable def spec_l3All_code : Code := match Try.f168.body with | some c => c | none => .skip
def spec_l3All_2_sv : List Sv := [.one (.arr 3), .one (.int .i64), .one (.int .i64), .one (.int .i64)]
def spec_l3All_2_so : List So := []
def spec_l3All_2_emb (c : List Int × Int × Int) (x : Int) : EVs T spec_l3All_2_sv × EOs T spec_l3All_2_so := ((c.1, c.2.1, c.2.2, x, ()), ())
def spec_l3All_2_prj (y : EVs T spec_l3All_2_sv × EOs T spec_l3All_2_so) : (List Int × Int × Int) × Int := ((y.1.1, y.1.2.1, y.1.2.2.1), (y.1.2.2.2.1))
def spec_l3All_2_b (n : Nat) {R : Type} (K : Ex → Sm.St T → Option R) (c : List Int × Int × Int) (x : Int) (J : Int → Option R) : Option R :=
  spec_l3All_L2 n (K (.exit 0) (stOf (T := T) [] [] [] [] () ())) (fun (y0 : Bool) => K .ret (stOf (T := T) [6] [] [.one (.bool)] [] (y0, ()) ())) J c.1 c.2.1 c.2.2 x
def spec_l3All_2_sp (n : Nat) : LSpec T := mkSpec T ⟨[], [0, 1, 2, 7], []⟩ spec_l3All_2_sv spec_l3All_2_so (List Int × Int × Int) (Int) spec_l3All_2_emb spec_l3All_2_prj (spec_l3All_2_b n)
noncomputable def spec_l3All_2_c : Code := ((loopCodes spec_l3All_code)[0]?).getD .skip
def spec_l3All_ann : Ann := fun id => bif Nat.beq id 3000002 then some ⟨[], [], []⟩ else bif Nat.beq id 2000002 then some ⟨[], [6], []⟩ else none
def spec_l3All_Ls (n : Nat) : Nat → Option (LSpec T) := fun id => bif Nat.beq id 2 then some (spec_l3All_2_sp n) else none
theorem spec_l3All_2_le (n : Nat) : LoopEq (T := T) (Phi n 35) (spec_l3All_Ls n) spec_l3All_ann n spec_l3All_2_c (spec_l3All_2_sp n) := ⟨mkSpec_dec (fun y => rfl), fun c x => by kernel_rfl, fun K J c x => by kernel_rfl⟩
theorem spec_l3All_tie (n : Nat) (list0 : List Int) (a1 : Int) (b2 : Int) : evF (T := T) (Phi n 35) (spec_l3All_Ls n) spec_l3All_ann n Try.f168 (sg 168) [vA T 41 list0, vA T 3 a1, vA T 3 b2] spec_l3All_dec = spec_l3All n list0 a1 b2 := by kernel_rfl
theorem spec_l3All_lo (n : Nat) : LoopsOk (T := T) (Phi n 35) (spec_l3All_Ls n) spec_l3All_ann n spec_l3All_code := loopsOk_all (cs := [spec_l3All_2_c]) (by kernel_rfl) ⟨⟨_, by kernel_rfl, spec_l3All_2_le n⟩, trivial⟩
theorem spec_l3All_ok (n : Nat) : EntOk Try.prog (ents n) (spec_l3All_ent n) := by
  intro hs ar y hg h
  replace h : spec_l3All_D n ar = some y := h
  unfold spec_l3All_D at h
  replace h := ocons_some h
  obtain ⟨a0, r0, rfl, h⟩ := h
  replace h := ocons_some h
  obtain ⟨a1, r1, rfl, h⟩ := h
  replace h := ocons_some h
  obtain ⟨a2, r2, rfl, h⟩ := h
  replace h := onil_some h
  obtain ⟨rfl, h⟩ := h
  obtain ⟨list0, qh0, h⟩ := obind_some h
  obtain ⟨a1, qh1, h⟩ := obind_some h
  obtain ⟨b2, qh2, h⟩ := obind_some h
  rw [argV_eq ok qh0, argV_eq ok qh1, argV_eq ok qh2]
  exact call_of (phiE_nat _ _) hs ok mixed Try.func168 (c := spec_l3All_code) (by kernel_rfl) (spec_l3All_lo n) (by kernel_rfl) (by kernel_rfl) (by kernel_rfl) spec_l3All_de ((spec_l3All_tie n list0 a1 b2).trans h)
noncomputable def spec_FloorOk_code : Code := match Try.f128.body with | some c => c | none => .skip
def spec_FloorOk_ann : Ann := fun id => none
def spec_FloorOk_Ls (n : Nat) : Nat → Option (LSpec T) := fun id => none
theorem spec_FloorOk_tie (n : Nat) (f0 : SFloor) : evF (T := T) (Phi n 36) (spec_FloorOk_Ls n) spec_FloorOk_ann n Try.f128 (sg 128) [vA T 71 f0] spec_FloorOk_dec = spec_FloorOk n f0 := by kernel_rfl
theorem spec_FloorOk_lo (n : Nat) : LoopsOk (T := T) (Phi n 36) (spec_FloorOk_Ls n) spec_FloorOk_ann n spec_FloorOk_code := loopsOk_all (cs := []) (by kernel_rfl) trivial
theorem spec_FloorOk_ok (n : Nat) : EntOk Try.prog (ents n) (spec_FloorOk_ent n) := by
  intro hs ar y hg h
  replace h : spec_FloorOk_D n ar = some y := h
  unfold spec_FloorOk_D at h
  replace h := ocons_some h
  obtain ⟨a0, r0, rfl, h⟩ := h
  replace h := onil_some h
  obtain ⟨rfl, h⟩ := h
  obtain ⟨f0, qh0, h⟩ := obind_some h
  rw [argV_eq ok qh0]
  exact call_of (phiE_nat _ _) hs ok mixed Try.func128 (c := spec_FloorOk_code) (by kernel_rfl) (spec_FloorOk_lo n) (by kernel_rfl) (by kernel_rfl) (by kernel_rfl) spec_FloorOk_de ((spec_FloorOk_tie n f0).trans h)
noncomputable def spec_l19Next_code : Code := match Try.f129.body with | some c => c | none => .skip
def spec_l19Next_ann : Ann := fun id => none
def spec_l19Next_Ls (n : Nat) : Nat → Option (LSpec T) := fun id => none
theorem spec_l19Next_tie (n : Nat) (f0 : SFloor) (p1 : Int) (bit2 : Int) : evF (T := T) (Phi n 37) (spec_l19Next_Ls n) spec_l19Next_ann n Try.f129 (sg 129) [vA T 71 f0, vA T 3 p1, vA T 3 bit2] spec_l19Next_dec = spec_l19Next n f0 p1 bit2 := by kernel_rfl
theorem spec_l19Next_lo (n : Nat) : LoopsOk (T := T) (Phi n 37) (spec_l19Next_Ls n) spec_l19Next_ann n spec_l19Next_code := loopsOk_all (cs := []) (by kernel_rfl) trivial
theorem spec_l19Next_ok (n : Nat) : EntOk Try.prog (ents n) (spec_l19Next_ent n) := by
  intro hs ar y hg h
  replace h : spec_l19Next_D n ar = some y := h
  unfold spec_l19Next_D at h
  replace h := ocons_some h
  obtain ⟨a0, r0, rfl, h⟩ := h
  replace h := ocons_some h
  obtain ⟨a1, r1, rfl, h⟩ := h
  replace h := ocons_some h
  obtain ⟨a2, r2, rfl, h⟩ := h
  replace h := onil_some h
  obtain ⟨rfl, h⟩ := h
  obtain ⟨f0, qh0, h⟩ := obind_some h
  obtain ⟨p1, qh1, h⟩ := obind_some h
  obtain ⟨bit2, qh2, h⟩ := obind_some h
  rw [argV_eq ok qh0, argV_eq ok qh1, argV_eq ok qh2]
  exact call_of (phiE_nat _ _) hs ok mixed Try.func129 (c := spec_l19Next_code) (by kernel_rfl) (spec_l19Next_lo n) (by kernel_rfl) (by kernel_rfl) (by kernel_rfl) spec_l19Next_de ((spec_l19Next_tie n f0 p1 bit2).trans h)
noncomputable def spec_Hops_code : Code := match Try.f48.body with | some c => c | none => .skip
def spec_Hops_5_sv : List Sv := [.one (.int .i64), .one (.ptr 16 0 0), .one (.own 3000000 3 false), .one (.int .i64)]
def spec_Hops_5_so : List So := [.var [.int .i64, .int .i64, .arr 3], .arr 3 false]
def spec_Hops_5_emb (c : Int × SFloor) (x : Int × List Int) : EVs T spec_Hops_5_sv × EOs T spec_Hops_5_so := ((c.1, (), (), x.1, ()), ((c.2.Wide, c.2.High, c.2.Ways, ()), x.2, ()))
def spec_Hops_5_prj (y : EVs T spec_Hops_5_sv × EOs T spec_Hops_5_so) : (Int × SFloor) × (Int × List Int) := ((y.1.1, ((⟨y.2.1.1, y.2.1.2.1, y.2.1.2.2.1⟩ : SFloor) : SFloor)), (y.1.2.2.2.1, y.2.2.1))
def spec_Hops_5_b (n : Nat) {R : Type} (K : Ex → Sm.St T → Option R) (c : Int × SFloor) (x : Int × List Int) (J : (Int × List Int) → Option R) : Option R :=
  spec_Hops_L5 n (fun (y2 : List Int) => K (.exit 0) (stOf (T := T) [1, 2, 6] [16, 3000000] [.one (.int .i64), .one (.ptr 16 0 0), .one (.own 3000000 3 false)] [.var [.int .i64, .int .i64, .arr 3], .arr 3 false] (c.1, (), (), ()) ((c.2.Wide, c.2.High, c.2.Ways, ()), y2, ()))) (fun z0 z1 => J (z0, z1)) c.1 x.1 c.2 x.2
def spec_Hops_5_sp (n : Nat) : LSpec T := mkSpec T ⟨[((.reg 6), 3000000, 3)], [1, 2, 6, 7], [16, 3000000]⟩ spec_Hops_5_sv spec_Hops_5_so (Int × SFloor) (Int × List Int) spec_Hops_5_emb spec_Hops_5_prj (spec_Hops_5_b n)
noncomputable def spec_Hops_5_c : Code := ((loopCodes spec_Hops_code)[0]?).getD .skip
def spec_Hops_10_sv : List Sv := [.one (.ptr 16 0 0), .one (.own 3000000 3 false), .one (.int .i64)]
def spec_Hops_10_so : List So := [.var [.int .i64, .int .i64, .arr 3], .arr 3 false]
def spec_Hops_10_emb (c : SFloor) (x : Int × List Int) : EVs T spec_Hops_10_sv × EOs T spec_Hops_10_so := (((), (), x.1, ()), ((c.Wide, c.High, c.Ways, ()), x.2, ()))
def spec_Hops_10_prj (y : EVs T spec_Hops_10_sv × EOs T spec_Hops_10_so) : SFloor × (Int × List Int) := ((((⟨y.2.1.1, y.2.1.2.1, y.2.1.2.2.1⟩ : SFloor) : SFloor)), (y.1.2.2.1, y.2.2.1))
def spec_Hops_10_b (n : Nat) {R : Type} (K : Ex → Sm.St T → Option R) (c : SFloor) (x : Int × List Int) (J : (Int × List Int) → Option R) : Option R :=
  spec_Hops_L10 n (fun (y0 : List Int) => K (.exit 2) (stOf (T := T) [6] [3000000] [.one (.own 3000000 3 false)] [.arr 3 false] ((), ()) (y0, ()))) (fun z0 z1 => J (z0, z1)) x.1 c x.2
def spec_Hops_10_sp (n : Nat) : LSpec T := mkSpec T ⟨[((.reg 6), 3000000, 3)], [2, 6, 8], [16, 3000000]⟩ spec_Hops_10_sv spec_Hops_10_so (SFloor) (Int × List Int) spec_Hops_10_emb spec_Hops_10_prj (spec_Hops_10_b n)
noncomputable def spec_Hops_10_c : Code := ((loopCodes spec_Hops_code)[1]?).getD .skip
def spec_Hops_13_sv : List Sv := [.one (.ptr 16 0 0), .one (.own 3000000 3 false), .one (.int .i64), .one (.int .i64)]
def spec_Hops_13_so : List So := [.var [.int .i64, .int .i64, .arr 3], .arr 3 false]
def spec_Hops_13_emb (c : Int × SFloor) (x : Int × List Int) : EVs T spec_Hops_13_sv × EOs T spec_Hops_13_so := (((), (), c.1, x.1, ()), ((c.2.Wide, c.2.High, c.2.Ways, ()), x.2, ()))
def spec_Hops_13_prj (y : EVs T spec_Hops_13_sv × EOs T spec_Hops_13_so) : (Int × SFloor) × (Int × List Int) := ((y.1.2.2.1, ((⟨y.2.1.1, y.2.1.2.1, y.2.1.2.2.1⟩ : SFloor) : SFloor)), (y.1.2.2.2.1, y.2.2.1))
def spec_Hops_13_b (n : Nat) {R : Type} (K : Ex → Sm.St T → Option R) (c : Int × SFloor) (x : Int × List Int) (J : (Int × List Int) → Option R) : Option R :=
  spec_Hops_L13 n (fun (y2 : List Int) => K (.exit 4) (stOf (T := T) [2, 6, 8] [16, 3000000] [.one (.ptr 16 0 0), .one (.own 3000000 3 false), .one (.int .i64)] [.var [.int .i64, .int .i64, .arr 3], .arr 3 false] ((), (), c.1, ()) ((c.2.Wide, c.2.High, c.2.Ways, ()), y2, ()))) (fun z0 z1 => J (z0, z1)) c.1 x.1 c.2 x.2
def spec_Hops_13_sp (n : Nat) : LSpec T := mkSpec T ⟨[((.reg 6), 3000000, 3)], [2, 6, 8, 9], [16, 3000000]⟩ spec_Hops_13_sv spec_Hops_13_so (Int × SFloor) (Int × List Int) spec_Hops_13_emb spec_Hops_13_prj (spec_Hops_13_b n)
noncomputable def spec_Hops_13_c : Code := ((loopCodes spec_Hops_code)[2]?).getD .skip
def spec_Hops_16_sv : List Sv := [.one (.ptr 16 0 0), .one (.own 3000000 3 false), .one (.int .i64), .one (.int .i64), .one (.int .i64)]
def spec_Hops_16_so : List So := [.var [.int .i64, .int .i64, .arr 3], .arr 3 false]
def spec_Hops_16_emb (c : Int × Int × SFloor) (x : Int × List Int) : EVs T spec_Hops_16_sv × EOs T spec_Hops_16_so := (((), (), c.1, c.2.1, x.1, ()), ((c.2.2.Wide, c.2.2.High, c.2.2.Ways, ()), x.2, ()))
def spec_Hops_16_prj (y : EVs T spec_Hops_16_sv × EOs T spec_Hops_16_so) : (Int × Int × SFloor) × (Int × List Int) := ((y.1.2.2.1, y.1.2.2.2.1, ((⟨y.2.1.1, y.2.1.2.1, y.2.1.2.2.1⟩ : SFloor) : SFloor)), (y.1.2.2.2.2.1, y.2.2.1))
def spec_Hops_16_b (n : Nat) {R : Type} (K : Ex → Sm.St T → Option R) (c : Int × Int × SFloor) (x : Int × List Int) (J : (Int × List Int) → Option R) : Option R :=
  spec_Hops_L16 n (fun (y3 : List Int) => K (.exit 6) (stOf (T := T) [2, 6, 8, 9] [16, 3000000] [.one (.ptr 16 0 0), .one (.own 3000000 3 false), .one (.int .i64), .one (.int .i64)] [.var [.int .i64, .int .i64, .arr 3], .arr 3 false] ((), (), c.1, c.2.1, ()) ((c.2.2.Wide, c.2.2.High, c.2.2.Ways, ()), y3, ()))) (fun z0 z1 => J (z0, z1)) c.1 c.2.1 x.1 c.2.2 x.2
def spec_Hops_16_sp (n : Nat) : LSpec T := mkSpec T ⟨[((.reg 6), 3000000, 3)], [2, 6, 8, 9, 10], [16, 3000000]⟩ spec_Hops_16_sv spec_Hops_16_so (Int × Int × SFloor) (Int × List Int) spec_Hops_16_emb spec_Hops_16_prj (spec_Hops_16_b n)
noncomputable def spec_Hops_16_c : Code := ((loopCodes spec_Hops_code)[3]?).getD .skip
def spec_Hops_ann : Ann := fun id => bif Nat.beq id 3000005 then some ⟨[((.reg 6), 3000000, 3)], [1, 2, 6], [16, 3000000]⟩ else bif Nat.beq id 5000010 then some ⟨[((.reg 6), 3000000, 3)], [6], [3000000]⟩ else bif Nat.beq id 7000013 then some ⟨[((.reg 6), 3000000, 3)], [2, 6, 8], [16, 3000000]⟩ else bif Nat.beq id 9000016 then some ⟨[((.reg 6), 3000000, 3)], [2, 6, 8, 9], [16, 3000000]⟩ else none
def spec_Hops_Ls (n : Nat) : Nat → Option (LSpec T) := fun id => bif Nat.beq id 5 then some (spec_Hops_5_sp n) else bif Nat.beq id 10 then some (spec_Hops_10_sp n) else bif Nat.beq id 13 then some (spec_Hops_13_sp n) else bif Nat.beq id 16 then some (spec_Hops_16_sp n) else none
theorem spec_Hops_5_le (n : Nat) : LoopEq (T := T) (Phi n 38) (spec_Hops_Ls n) spec_Hops_ann n spec_Hops_5_c (spec_Hops_5_sp n) := ⟨mkSpec_dec (fun y => rfl), fun c x => by kernel_rfl, fun K J c x => by kernel_rfl⟩
theorem spec_Hops_10_le (n : Nat) : LoopEq (T := T) (Phi n 38) (spec_Hops_Ls n) spec_Hops_ann n spec_Hops_10_c (spec_Hops_10_sp n) := ⟨mkSpec_dec (fun y => rfl), fun c x => by kernel_rfl, fun K J c x => by kernel_rfl⟩
theorem spec_Hops_13_le (n : Nat) : LoopEq (T := T) (Phi n 38) (spec_Hops_Ls n) spec_Hops_ann n spec_Hops_13_c (spec_Hops_13_sp n) := ⟨mkSpec_dec (fun y => rfl), fun c x => by kernel_rfl, fun K J c x => by kernel_rfl⟩
theorem spec_Hops_16_le (n : Nat) : LoopEq (T := T) (Phi n 38) (spec_Hops_Ls n) spec_Hops_ann n spec_Hops_16_c (spec_Hops_16_sp n) := ⟨mkSpec_dec (fun y => rfl), fun c x => by kernel_rfl, fun K J c x => by kernel_rfl⟩
theorem spec_Hops_tie (n : Nat) (f0 : SFloor) (goal1 : Int) : evF (T := T) (Phi n 38) (spec_Hops_Ls n) spec_Hops_ann n Try.f48 (sg 48) [vA T 71 f0, vA T 3 goal1] spec_Hops_dec = spec_Hops n f0 goal1 := by kernel_rfl
theorem spec_Hops_lo (n : Nat) : LoopsOk (T := T) (Phi n 38) (spec_Hops_Ls n) spec_Hops_ann n spec_Hops_code := loopsOk_all (cs := [spec_Hops_5_c, spec_Hops_10_c, spec_Hops_13_c, spec_Hops_16_c]) (by kernel_rfl) ⟨⟨_, by kernel_rfl, spec_Hops_5_le n⟩, ⟨_, by kernel_rfl, spec_Hops_10_le n⟩, ⟨_, by kernel_rfl, spec_Hops_13_le n⟩, ⟨_, by kernel_rfl, spec_Hops_16_le n⟩, trivial⟩
theorem spec_Hops_ok (n : Nat) : EntOk Try.prog (ents n) (spec_Hops_ent n) := by
  intro hs ar y hg h
  replace h : spec_Hops_D n ar = some y := h
  unfold spec_Hops_D at h
  replace h := ocons_some h
  obtain ⟨a0, r0, rfl, h⟩ := h
  replace h := ocons_some h
  obtain ⟨a1, r1, rfl, h⟩ := h
  replace h := onil_some h
  obtain ⟨rfl, h⟩ := h
  obtain ⟨f0, qh0, h⟩ := obind_some h
  obtain ⟨goal1, qh1, h⟩ := obind_some h
  rw [argV_eq ok qh0, argV_eq ok qh1]
  exact call_of (phiE_nat _ _) hs ok mixed Try.func48 (c := spec_Hops_code) (by kernel_rfl) (spec_Hops_lo n) (by kernel_rfl) (by kernel_rfl) (by kernel_rfl) spec_Hops_de ((spec_Hops_tie n f0 goal1).trans h)
noncomputable def impl_Settle19_1_code : Code := match Try.f130.body with | some c => c | none => .skip
def impl_Settle19_1_ann : Ann := fun id => none
def impl_Settle19_1_Ls (n : Nat) : Nat → Option (LSpec T) := fun id => none
theorem impl_Settle19_1_tie (n : Nat) (c0 : SCart) : evF (T := T) (Phi n 39) (impl_Settle19_1_Ls n) impl_Settle19_1_ann n Try.f130 (sg 130) [vA T 81 c0] impl_Settle19_1_dec = impl_Settle19_1 n c0 := by kernel_rfl
theorem impl_Settle19_1_lo (n : Nat) : LoopsOk (T := T) (Phi n 39) (impl_Settle19_1_Ls n) impl_Settle19_1_ann n impl_Settle19_1_code := loopsOk_all (cs := []) (by kernel_rfl) trivial
theorem impl_Settle19_1_ok (n : Nat) : EntOk Try.prog (ents n) (impl_Settle19_1_ent n) := by
  intro hs ar y hg h
  replace h : impl_Settle19_1_D n ar = some y := h
  unfold impl_Settle19_1_D at h
  replace h := ocons_some h
  obtain ⟨a0, r0, rfl, h⟩ := h
  replace h := onil_some h
  obtain ⟨rfl, h⟩ := h
  obtain ⟨c0, qh0, h⟩ := obind_some h
  rw [argV_eq ok qh0]
  exact call_of (phiE_nat _ _) hs ok mixed Try.func130 (c := impl_Settle19_1_code) (by kernel_rfl) (impl_Settle19_1_lo n) (by kernel_rfl) (by kernel_rfl) (by kernel_rfl) impl_Settle19_1_de ((impl_Settle19_1_tie n c0).trans h)
noncomputable def slices_IndexFunc_impl_Cart_impl_Cart__impl_Settle19_1_code : Code := match Try.f164.body with | some c => c | none => .skip
def slices_IndexFunc_impl_Cart_impl_Cart__impl_Settle19_1_2_sv : List Sv := [.one (.arr 81), .one (.fn 130 []), .one (.int .i64), .one (.int .i64)]
def slices_IndexFunc_impl_Cart_impl_Cart__impl_Settle19_1_2_so : List So := []
def slices_IndexFunc_impl_Cart_impl_Cart__impl_Settle19_1_2_emb (c : List SCart × Int) (x : Int) : EVs T slices_IndexFunc_impl_Cart_impl_Cart__impl_Settle19_1_2_sv × EOs T slices_IndexFunc_impl_Cart_impl_Cart__impl_Settle19_1_2_so := ((c.1, (), c.2, x, ()), ())
def slices_IndexFunc_impl_Cart_impl_Cart__impl_Settle19_1_2_prj (y : EVs T slices_IndexFunc_impl_Cart_impl_Cart__impl_Settle19_1_2_sv × EOs T slices_IndexFunc_impl_Cart_impl_Cart__impl_Settle19_1_2_so) : (List SCart × Int) × Int := ((y.1.1, y.1.2.2.1), (y.1.2.2.2.1))
def slices_IndexFunc_impl_Cart_impl_Cart__impl_Settle19_1_2_b (n : Nat) {R : Type} (K : Ex → Sm.St T → Option R) (c : List SCart × Int) (x : Int) (J : Int → Option R) : Option R :=
  slices_IndexFunc_impl_Cart_impl_Cart__impl_Settle19_1_L2 n (K (.exit 0) (stOf (T := T) [] [] [] [] () ())) (fun (y0 : Int) => K .ret (stOf (T := T) [4] [] [.one (.int .i64)] [] (y0, ()) ())) J c.1 c.2 x
def slices_IndexFunc_impl_Cart_impl_Cart__impl_Settle19_1_2_sp (n : Nat) : LSpec T := mkSpec T ⟨[], [0, 1, 7, 8], []⟩ slices_IndexFunc_impl_Cart_impl_Cart__impl_Settle19_1_2_sv slices_IndexFunc_impl_Cart_impl_Cart__impl_Settle19_1_2_so (List SCart × Int) (Int) slices_IndexFunc_impl_Cart_impl_Cart__impl_Settle19_1_2_emb slices_IndexFunc_impl_Cart_impl_Cart__impl_Settle19_1_2_prj (slices_IndexFunc_impl_Cart_impl_Cart__impl_Settle19_1_2_b n)
noncomputable def slices_IndexFunc_impl_Cart_impl_Cart__impl_Settle19_1_2_c : Code := ((loopCodes slices_IndexFunc_impl_Cart_impl_Cart__impl_Settle19_1_code)[0]?).getD .skip
def slices_IndexFunc_impl_Cart_impl_Cart__impl_Settle19_1_ann : Ann := fun id => bif Nat.beq id 3000002 then some ⟨[], [], []⟩ else bif Nat.beq id 2000002 then some ⟨[], [4], []⟩ else none
def slices_IndexFunc_impl_Cart_impl_Cart__impl_Settle19_1_Ls (n : Nat) : Nat → Option (LSpec T) := fun id => bif Nat.beq id 2 then some (slices_IndexFunc_impl_Cart_impl_Cart__impl_Settle19_1_2_sp n) else none
theorem slices_IndexFunc_impl_Cart_impl_Cart__impl_Settle19_1_2_le (n : Nat) : LoopEq (T := T) (Phi n 40) (slices_IndexFunc_impl_Cart_impl_Cart__impl_Settle19_1_Ls n) slices_IndexFunc_impl_Cart_impl_Cart__impl_Settle19_1_ann n slices_IndexFunc_impl_Cart_impl_Cart__impl_Settle19_1_2_c (slices_IndexFunc_impl_Cart_impl_Cart__impl_Settle19_1_2_sp n) := ⟨mkSpec_dec (fun y => rfl), fun c x => by kernel_rfl, fun K J c x => by kernel_rfl⟩
theorem slices_IndexFunc_impl_Cart_impl_Cart__impl_Settle19_1_tie (n : Nat) (s0 : List SCart) : evF (T := T) (Phi n 40) (slices_IndexFunc_impl_Cart_impl_Cart__impl_Settle19_1_Ls n) slices_IndexFunc_impl_Cart_impl_Cart__impl_Settle19_1_ann n Try.f164 (sg 164) [vA T 72 s0, .fn 130 []] slices_IndexFunc_impl_Cart_impl_Cart__impl_Settle19_1_dec = slices_IndexFunc_impl_Cart_impl_Cart__impl_Settle19_1 n s0 := by kernel_rfl
theorem slices_IndexFunc_impl_Cart_impl_Cart__impl_Settle19_1_lo (n : Nat) : LoopsOk (T := T) (Phi n 40) (slices_IndexFunc_impl_Cart_impl_Cart__impl_Settle19_1_Ls n) slices_IndexFunc_impl_Cart_impl_Cart__impl_Settle19_1_ann n slices_IndexFunc_impl_Cart_impl_Cart__impl_Settle19_1_code := loopsOk_all (cs := [slices_IndexFunc_impl_Cart_impl_Cart__impl_Settle19_1_2_c]) (by kernel_rfl) ⟨⟨_, by kernel_rfl, slices_IndexFunc_impl_Cart_impl_Cart__impl_Settle19_1_2_le n⟩, trivial⟩
theorem slices_IndexFunc_impl_Cart_impl_Cart__impl_Settle19_1_ok (n : Nat) : EntOk Try.prog (ents n) (slices_IndexFunc_impl_Cart_impl_Cart__impl_Settle19_1_ent n) := by
  intro hs ar y hg h
  replace h : slices_IndexFunc_impl_Cart_impl_Cart__impl_Settle19_1_D n ar = some y := h
  unfold slices_IndexFunc_impl_Cart_impl_Cart__impl_Settle19_1_D at h
  split at h
  · obtain ⟨s0, qh0, h⟩ := obind_some h
    rw [argV_eq ok qh0] at hg ⊢
    cases (show [_] = [130] from natsEq_eq hg)
    exact call_of (phiE_nat _ _) hs ok mixed Try.func164 (c := slices_IndexFunc_impl_Cart_impl_Cart__impl_Settle19_1_code) (by kernel_rfl) (slices_IndexFunc_impl_Cart_impl_Cart__impl_Settle19_1_lo n) (by kernel_rfl) (by kernel_rfl) (by kernel_rfl) slices_IndexFunc_impl_Cart_impl_Cart__impl_Settle19_1_de ((slices_IndexFunc_impl_Cart_impl_Cart__impl_Settle19_1_tie n s0).trans h)
  · cases h
noncomputable def slices_ContainsFunc_impl_Cart_impl_Cart__impl_Settle19_1_code : Code := match Try.f121.body with | some c => c | none => .skip
def slices_ContainsFunc_impl_Cart_impl_Cart__impl_Settle19_1_ann : Ann := fun id => none
def slices_ContainsFunc_impl_Cart_impl_Cart__impl_Settle19_1_Ls (n : Nat) : Nat → Option (LSpec T) := fun id => none
theorem slices_ContainsFunc_impl_Cart_impl_Cart__impl_Settle19_1_tie (n : Nat) (s0 : List SCart) : evF (T := T) (Phi n 41) (slices_ContainsFunc_impl_Cart_impl_Cart__impl_Settle19_1_Ls n) slices_ContainsFunc_impl_Cart_impl_Cart__impl_Settle19_1_ann n Try.f121 (sg 121) [vA T 72 s0, .fn 130 []] slices_ContainsFunc_impl_Cart_impl_Cart__impl_Settle19_1_dec = slices_ContainsFunc_impl_Cart_impl_Cart__impl_Settle19_1 n s0 := by kernel_rfl
theorem slices_ContainsFunc_impl_Cart_impl_Cart__impl_Settle19_1_lo (n : Nat) : LoopsOk (T := T) (Phi n 41) (slices_ContainsFunc_impl_Cart_impl_Cart__impl_Settle19_1_Ls n) slices_ContainsFunc_impl_Cart_impl_Cart__impl_Settle19_1_ann n slices_ContainsFunc_impl_Cart_impl_Cart__impl_Settle19_1_code := loopsOk_all (cs := []) (by kernel_rfl) trivial
theorem slices_ContainsFunc_impl_Cart_impl_Cart__impl_Settle19_1_ok (n : Nat) : EntOk Try.prog (ents n) (slices_ContainsFunc_impl_Cart_impl_Cart__impl_Settle19_1_ent n) := by
  intro hs ar y hg h
  replace h : slices_ContainsFunc_impl_Cart_impl_Cart__impl_Settle19_1_D n ar = some y := h
  unfold slices_ContainsFunc_impl_Cart_impl_Cart__impl_Settle19_1_D at h
  split at h
  · obtain ⟨s0, qh0, h⟩ := obind_some h
    rw [argV_eq ok qh0] at hg ⊢
    cases (show [_] = [130] from natsEq_eq hg)
    exact call_of (phiE_nat _ _) hs ok mixed Try.func121 (c := slices_ContainsFunc_impl_Cart_impl_Cart__impl_Settle19_1_code) (by kernel_rfl) (slices_ContainsFunc_impl_Cart_impl_Cart__impl_Settle19_1_lo n) (by kernel_rfl) (by kernel_rfl) (by kernel_rfl) slices_ContainsFunc_impl_Cart_impl_Cart__impl_Settle19_1_de ((slices_ContainsFunc_impl_Cart_impl_Cart__impl_Settle19_1_tie n s0).trans h)
  · cases h
noncomputable def impl_Settle19_code : Code := match Try.f49.body with | some c => c | none => .skip
def impl_Settle19_6_sv : List Sv := [.one (.ptr 24 0 0), .one (.own 3000000 81 false), .one (.int .i64), .one (.int .i64), .one (.int .i64)]
def impl_Settle19_6_so : List So := [.var [.int .i64, .int .i64, .arr 3], .arr 81 false]
def impl_Settle19_6_emb (c : Int × SFloor) (x : Int × Int × List SCart) : EVs T impl_Settle19_6_sv × EOs T impl_Settle19_6_so := (((), (), x.1, c.1, x.2.1, ()), ((c.2.Wide, c.2.High, c.2.Ways, ()), x.2.2, ()))
def impl_Settle19_6_prj (y : EVs T impl_Settle19_6_sv × EOs T impl_Settle19_6_so) : (Int × SFloor) × (Int × Int × List SCart) := ((y.1.2.2.2.1, ((⟨y.2.1.1, y.2.1.2.1, y.2.1.2.2.1⟩ : SFloor) : SFloor)), (y.1.2.2.1, y.1.2.2.2.2.1, y.2.2.1))
def impl_Settle19_6_b (n : Nat) {R : Type} (K : Ex → Sm.St T → Option R) (c : Int × SFloor) (x : Int × Int × List SCart) (J : (Int × Int × List SCart) → Option R) : Option R :=
  impl_Settle19_L6 n (fun (y0 : Int) (y1 : List SCart) => K (.exit 0) (stOf (T := T) [9, 10] [3000000] [.one (.own 3000000 81 false), .one (.int .i64)] [.arr 81 false] ((), y0, ()) (y1, ()))) (fun z0 z1 z2 => J (z0, z1, z2)) x.1 c.1 x.2.1 c.2 x.2.2
def impl_Settle19_6_sp (n : Nat) : LSpec T := mkSpec T ⟨[((.reg 9), 3000000, 81)], [3, 9, 10, 25, 26], [24, 3000000]⟩ impl_Settle19_6_sv impl_Settle19_6_so (Int × SFloor) (Int × Int × List SCart) impl_Settle19_6_emb impl_Settle19_6_prj (impl_Settle19_6_b n)
noncomputable def impl_Settle19_6_c : Code := ((loopCodes impl_Settle19_code)[0]?).getD .skip
def impl_Settle19_ann : Ann := fun id => bif Nat.beq id 3000006 then some ⟨[((.reg 9), 3000000, 81)], [9, 10], [3000000]⟩ else none
def impl_Settle19_Ls (n : Nat) : Nat → Option (LSpec T) := fun id => bif Nat.beq id 6 then some (impl_Settle19_6_sp n) else none
theorem impl_Settle19_6_le (n : Nat) : LoopEq (T := T) (Phi n 42) (impl_Settle19_Ls n) impl_Settle19_ann n impl_Settle19_6_c (impl_Settle19_6_sp n) := ⟨mkSpec_dec (fun y => rfl), fun c x => by kernel_rfl, fun K J c x => by kernel_rfl⟩
theorem impl_Settle19_tie (n : Nat) (f0 : SFloor) (carts1 : List SCart) (rounds2 : Int) : evF (T := T) (Phi n 42) (impl_Settle19_Ls n) impl_Settle19_ann n Try.f49 (sg 49) [vA T 71 f0, vA T 72 carts1, vA T 3 rounds2] impl_Settle19_dec = impl_Settle19 n f0 carts1 rounds2 := by kernel_rfl
theorem impl_Settle19_lo (n : Nat) : LoopsOk (T := T) (Phi n 42) (impl_Settle19_Ls n) impl_Settle19_ann n impl_Settle19_code := loopsOk_all (cs := [impl_Settle19_6_c]) (by kernel_rfl) ⟨⟨_, by kernel_rfl, impl_Settle19_6_le n⟩, trivial⟩
theorem impl_Settle19_ok (n : Nat) : EntOk Try.prog (ents n) (impl_Settle19_ent n) := by
  intro hs ar y hg h
  replace h : impl_Settle19_D n ar = some y := h
  unfold impl_Settle19_D at h
  replace h := ocons_some h
  obtain ⟨a0, r0, rfl, h⟩ := h
  replace h := ocons_some h
  obtain ⟨a1, r1, rfl, h⟩ := h
  replace h := ocons_some h
  obtain ⟨a2, r2, rfl, h⟩ := h
  replace h := onil_some h
  obtain ⟨rfl, h⟩ := h
  obtain ⟨f0, qh0, h⟩ := obind_some h
  obtain ⟨carts1, qh1, h⟩ := obind_some h
  obtain ⟨rounds2, qh2, h⟩ := obind_some h
  rw [argV_eq ok qh0, argV_eq ok qh1, argV_eq ok qh2]
  exact call_of (phiE_nat _ _) hs ok mixed Try.func49 (c := impl_Settle19_code) (by kernel_rfl) (impl_Settle19_lo n) (by kernel_rfl) (by kernel_rfl) (by kernel_rfl) impl_Settle19_de ((impl_Settle19_tie n f0 carts1 rounds2).trans h)
noncomputable def laws_FnRounds_code : Code := match Try.f8.body with | some c => c | none => .skip
def laws_FnRounds_8_sv : List Sv := [.one (.ptr 24 0 0), .one (.arr 81), .one (.arr 81), .one (.int .i64)]
def laws_FnRounds_8_so : List So := [.var [.int .i64, .int .i64, .arr 3]]
def laws_FnRounds_8_emb (c : List SCart × SFloor) (x : List SCart × Int) : EVs T laws_FnRounds_8_sv × EOs T laws_FnRounds_8_so := (((), c.1, x.1, x.2, ()), ((c.2.Wide, c.2.High, c.2.Ways, ()), ()))
def laws_FnRounds_8_prj (y : EVs T laws_FnRounds_8_sv × EOs T laws_FnRounds_8_so) : (List SCart × SFloor) × (List SCart × Int) := ((y.1.2.1, ((⟨y.2.1.1, y.2.1.2.1, y.2.1.2.2.1⟩ : SFloor) : SFloor)), (y.1.2.2.1, y.1.2.2.2.1))
def laws_FnRounds_8_b (n : Nat) {R : Type} (K : Ex → Sm.St T → Option R) (c : List SCart × SFloor) (x : List SCart × Int) (J : (List SCart × Int) → Option R) : Option R :=
  laws_FnRounds_L8 n (K (.exit 0) (stOf (T := T) [] [] [] [] () ())) (fun (y0 : Bool) => K .ret (stOf (T := T) [2] [] [.one (.bool)] [] (y0, ()) ())) (fun z0 z1 => J (z0, z1)) c.1 x.1 x.2 c.2
def laws_FnRounds_8_sp (n : Nat) : LSpec T := mkSpec T ⟨[((.reg 5), 81, 999999)], [3, 4, 5, 6], [24]⟩ laws_FnRounds_8_sv laws_FnRounds_8_so (List SCart × SFloor) (List SCart × Int) laws_FnRounds_8_emb laws_FnRounds_8_prj (laws_FnRounds_8_b n)
noncomputable def laws_FnRounds_8_c : Code := ((loopCodes laws_FnRounds_code)[0]?).getD .skip
def laws_FnRounds_15_sv : List Sv := [.one (.ptr 24 0 0), .one (.arr 81), .one (.arr 81), .one (.int .i64), .one (.own 3000000 81 false), .one (.own 3000001 3 false), .one (.own 3000002 3 false), .one (.int .i64)]
def laws_FnRounds_15_so : List So := [.var [.int .i64, .int .i64, .arr 3], .arr 81 false, .arr 3 false, .arr 3 false]
def laws_FnRounds_15_emb (c : List SCart × List SCart × Int × SFloor × List SCart × List Int × List Int) (x : Int) : EVs T laws_FnRounds_15_sv × EOs T laws_FnRounds_15_so := (((), c.1, c.2.1, c.2.2.1, (), (), (), x, ()), ((c.2.2.2.1.Wide, c.2.2.2.1.High, c.2.2.2.1.Ways, ()), c.2.2.2.2.1, c.2.2.2.2.2.1, c.2.2.2.2.2.2, ()))
def laws_FnRounds_15_prj (y : EVs T laws_FnRounds_15_sv × EOs T laws_FnRounds_15_so) : (List SCart × List SCart × Int × SFloor × List SCart × List Int × List Int) × Int := ((y.1.2.1, y.1.2.2.1, y.1.2.2.2.1, ((⟨y.2.1.1, y.2.1.2.1, y.2.1.2.2.1⟩ : SFloor) : SFloor), y.2.2.1, y.2.2.2.1, y.2.2.2.2.1), (y.1.2.2.2.2.2.2.2.1))
def laws_FnRounds_15_b (n : Nat) {R : Type} (K : Ex → Sm.St T → Option R) (c : List SCart × List SCart × Int × SFloor × List SCart × List Int × List Int) (x : Int) (J : Int → Option R) : Option R :=
  laws_FnRounds_L15 n (K (.exit 2) (stOf (T := T) [3, 4, 5, 6, 7, 8] [24, 3000000, 3000001] [.one (.ptr 24 0 0), .one (.arr 81), .one (.arr 81), .one (.int .i64), .one (.own 3000000 81 false), .one (.own 3000001 3 false)] [.var [.int .i64, .int .i64, .arr 3], .arr 81 false, .arr 3 false] ((), c.1, c.2.1, c.2.2.1, (), (), ()) ((c.2.2.2.1.Wide, c.2.2.2.1.High, c.2.2.2.1.Ways, ()), c.2.2.2.2.1, c.2.2.2.2.2.1, ()))) (fun (y0 : Bool) => K .ret (stOf (T := T) [2] [] [.one (.bool)] [] (y0, ()) ())) J c.1 c.2.1 c.2.2.1 x c.2.2.2.1 c.2.2.2.2.1 c.2.2.2.2.2.1 c.2.2.2.2.2.2
def laws_FnRounds_15_sp (n : Nat) : LSpec T := mkSpec T ⟨[((.reg 7), 3000000, 81), ((.reg 8), 3000001, 3), ((.reg 10), 3000002, 3)], [3, 4, 5, 6, 7, 8, 10, 12], [24, 3000000, 3000001, 3000002]⟩ laws_FnRounds_15_sv laws_FnRounds_15_so (List SCart × List SCart × Int × SFloor × List SCart × List Int × List Int) (Int) laws_FnRounds_15_emb laws_FnRounds_15_prj (laws_FnRounds_15_b n)
noncomputable def laws_FnRounds_15_c : Code := ((loopCodes laws_FnRounds_code)[1]?).getD .skip
def laws_FnRounds_24_sv : List Sv := [.one (.ptr 24 0 0), .one (.arr 81), .one (.arr 81), .one (.int .i64), .one (.own 3000000 81 false), .one (.own 3000001 3 false), .one (.own 3000002 3 false), .one (.int .i64), .one (.int .i64)]
def laws_FnRounds_24_so : List So := [.var [.int .i64, .int .i64, .arr 3], .arr 81 false, .arr 3 false, .arr 3 false]
def laws_FnRounds_24_emb (c : List SCart × List SCart × Int × Int × SFloor × List SCart × List Int × List Int) (x : Int) : EVs T laws_FnRounds_24_sv × EOs T laws_FnRounds_24_so := (((), c.1, c.2.1, c.2.2.1, (), (), (), c.2.2.2.1, x, ()), ((c.2.2.2.2.1.Wide, c.2.2.2.2.1.High, c.2.2.2.2.1.Ways, ()), c.2.2.2.2.2.1, c.2.2.2.2.2.2.1, c.2.2.2.2.2.2.2, ()))
def laws_FnRounds_24_prj (y : EVs T laws_FnRounds_24_sv × EOs T laws_FnRounds_24_so) : (List SCart × List SCart × Int × Int × SFloor × List SCart × List Int × List Int) × Int := ((y.1.2.1, y.1.2.2.1, y.1.2.2.2.1, y.1.2.2.2.2.2.2.2.1, ((⟨y.2.1.1, y.2.1.2.1, y.2.1.2.2.1⟩ : SFloor) : SFloor), y.2.2.1, y.2.2.2.1, y.2.2.2.2.1), (y.1.2.2.2.2.2.2.2.2.1))
def laws_FnRounds_24_b (n : Nat) {R : Type} (K : Ex → Sm.St T → Option R) (c : List SCart × List SCart × Int × Int × SFloor × List SCart × List Int × List Int) (x : Int) (J : Int → Option R) : Option R :=
  laws_FnRounds_L24 n (K (.exit 4) (stOf (T := T) [3, 4, 5, 6, 7, 8, 10, 12] [24, 3000000, 3000001, 3000002] [.one (.ptr 24 0 0), .one (.arr 81), .one (.arr 81), .one (.int .i64), .one (.own 3000000 81 false), .one (.own 3000001 3 false), .one (.own 3000002 3 false), .one (.int .i64)] [.var [.int .i64, .int .i64, .arr 3], .arr 81 false, .arr 3 false, .arr 3 false] ((), c.1, c.2.1, c.2.2.1, (), (), (), c.2.2.2.1, ()) ((c.2.2.2.2.1.Wide, c.2.2.2.2.1.High, c.2.2.2.2.1.Ways, ()), c.2.2.2.2.2.1, c.2.2.2.2.2.2.1, c.2.2.2.2.2.2.2, ()))) (fun (y0 : Bool) => K .ret (stOf (T := T) [2] [] [.one (.bool)] [] (y0, ()) ())) J c.1 c.2.1 c.2.2.1 c.2.2.2.1 x c.2.2.2.2.1 c.2.2.2.2.2.1 c.2.2.2.2.2.2.1 c.2.2.2.2.2.2.2
def laws_FnRounds_24_sp (n : Nat) : LSpec T := mkSpec T ⟨[((.reg 7), 3000000, 81), ((.reg 8), 3000001, 3), ((.reg 10), 3000002, 3)], [3, 4, 5, 6, 7, 8, 10, 12, 15], [24, 3000000, 3000001, 3000002]⟩ laws_FnRounds_24_sv laws_FnRounds_24_so (List SCart × List SCart × Int × Int × SFloor × List SCart × List Int × List Int) (Int) laws_FnRounds_24_emb laws_FnRounds_24_prj (laws_FnRounds_24_b n)
noncomputable def laws_FnRounds_24_c : Code := ((loopCodes laws_FnRounds_code)[2]?).getD .skip
def laws_FnRounds_31_sv : List Sv := [.one (.arr 81), .one (.int .i64), .one (.own 3000003 81 false), .one (.int .i64), .one (.int .i64)]
def laws_FnRounds_31_so : List So := [.arr 81 false]
def laws_FnRounds_31_emb (c : List SCart × Int × Int × List SCart) (x : Int) : EVs T laws_FnRounds_31_sv × EOs T laws_FnRounds_31_so := ((c.1, c.2.1, (), c.2.2.1, x, ()), (c.2.2.2, ()))
def laws_FnRounds_31_prj (y : EVs T laws_FnRounds_31_sv × EOs T laws_FnRounds_31_so) : (List SCart × Int × Int × List SCart) × Int := ((y.1.1, y.1.2.1, y.1.2.2.2.1, y.2.1), (y.1.2.2.2.2.1))
def laws_FnRounds_31_b (n : Nat) {R : Type} (K : Ex → Sm.St T → Option R) (c : List SCart × Int × Int × List SCart) (x : Int) (J : Int → Option R) : Option R :=
  laws_FnRounds_L31 n (K (.exit 6) (stOf (T := T) [6, 17] [] [.one (.int .i64), .one (.int .i64)] [] (c.2.1, c.2.2.1, ()) ())) (fun (y0 : Bool) => K .ret (stOf (T := T) [2] [] [.one (.bool)] [] (y0, ()) ())) J c.1 c.2.1 c.2.2.1 x c.2.2.2
def laws_FnRounds_31_sp (n : Nat) : LSpec T := mkSpec T ⟨[((.reg 16), 3000003, 81)], [5, 6, 16, 17, 19], [3000003]⟩ laws_FnRounds_31_sv laws_FnRounds_31_so (List SCart × Int × Int × List SCart) (Int) laws_FnRounds_31_emb laws_FnRounds_31_prj (laws_FnRounds_31_b n)
noncomputable def laws_FnRounds_31_c : Code := ((loopCodes laws_FnRounds_code)[3]?).getD .skip
def laws_FnRounds_ann : Ann := fun id => bif Nat.beq id 3000008 then some ⟨[], [], []⟩ else bif Nat.beq id 2000008 then some ⟨[], [2], []⟩ else bif Nat.beq id 5000015 then some ⟨[((.reg 7), 3000000, 81), ((.reg 8), 3000001, 3)], [3, 4, 5, 6, 7, 8], [24, 3000000, 3000001]⟩ else bif Nat.beq id 2000015 then some ⟨[], [2], []⟩ else bif Nat.beq id 7000024 then some ⟨[((.reg 7), 3000000, 81), ((.reg 8), 3000001, 3), ((.reg 10), 3000002, 3)], [3, 4, 5, 6, 7, 8, 10, 12], [24, 3000000, 3000001, 3000002]⟩ else bif Nat.beq id 2000024 then some ⟨[], [2], []⟩ else bif Nat.beq id 9000031 then some ⟨[], [6, 17], []⟩ else bif Nat.beq id 2000031 then some ⟨[], [2], []⟩ else none
def laws_FnRounds_Ls (n : Nat) : Nat → Option (LSpec T) := fun id => bif Nat.beq id 8 then some (laws_FnRounds_8_sp n) else bif Nat.beq id 15 then some (laws_FnRounds_15_sp n) else bif Nat.beq id 24 then some (laws_FnRounds_24_sp n) else bif Nat.beq id 31 then some (laws_FnRounds_31_sp n) else none
theorem laws_FnRounds_8_le (n : Nat) : LoopEq (T := T) (Phi n 43) (laws_FnRounds_Ls n) laws_FnRounds_ann n laws_FnRounds_8_c (laws_FnRounds_8_sp n) := ⟨mkSpec_dec (fun y => rfl), fun c x => by kernel_rfl, fun K J c x => by kernel_rfl⟩
theorem laws_FnRounds_15_le (n : Nat) : LoopEq (T := T) (Phi n 43) (laws_FnRounds_Ls n) laws_FnRounds_ann n laws_FnRounds_15_c (laws_FnRounds_15_sp n) := ⟨mkSpec_dec (fun y => rfl), fun c x => by kernel_rfl, fun K J c x => by kernel_rfl⟩
theorem laws_FnRounds_24_le (n : Nat) : LoopEq (T := T) (Phi n 43) (laws_FnRounds_Ls n) laws_FnRounds_ann n laws_FnRounds_24_c (laws_FnRounds_24_sp n) := ⟨mkSpec_dec (fun y => rfl), fun c x => by kernel_rfl, fun K J c x => by kernel_rfl⟩
theorem laws_FnRounds_31_le (n : Nat) : LoopEq (T := T) (Phi n 43) (laws_FnRounds_Ls n) laws_FnRounds_ann n laws_FnRounds_31_c (laws_FnRounds_31_sp n) := ⟨mkSpec_dec (fun y => rfl), fun c x => by kernel_rfl, fun K J c x => by kernel_rfl⟩
theorem laws_FnRounds_tie (n : Nat) (code0 : List Int) : evF (T := T) (Phi n 43) (laws_FnRounds_Ls n) laws_FnRounds_ann n Try.f8 (sg 8) [vA T 22 code0] laws_FnRounds_dec = laws_FnRounds n code0 := by kernel_rfl
theorem laws_FnRounds_lo (n : Nat) : LoopsOk (T := T) (Phi n 43) (laws_FnRounds_Ls n) laws_FnRounds_ann n laws_FnRounds_code := loopsOk_all (cs := [laws_FnRounds_8_c, laws_FnRounds_15_c, laws_FnRounds_24_c, laws_FnRounds_31_c]) (by kernel_rfl) ⟨⟨_, by kernel_rfl, laws_FnRounds_8_le n⟩, ⟨_, by kernel_rfl, laws_FnRounds_15_le n⟩, ⟨_, by kernel_rfl, laws_FnRounds_24_le n⟩, ⟨_, by kernel_rfl, laws_FnRounds_31_le n⟩, trivial⟩
theorem laws_FnRounds_ok (n : Nat) : EntOk Try.prog (ents n) (laws_FnRounds_ent n) := by
  intro hs ar y hg h
  replace h : laws_FnRounds_D n ar = some y := h
  unfold laws_FnRounds_D at h
  replace h := ocons_some h
  obtain ⟨a0, r0, rfl, h⟩ := h
  replace h := onil_some h
  obtain ⟨rfl, h⟩ := h
  obtain ⟨code0, qh0, h⟩ := obind_some h
  rw [argV_eq ok qh0]
  exact call_of (phiE_nat _ _) hs ok mixed Try.func8 (c := laws_FnRounds_code) (by kernel_rfl) (laws_FnRounds_lo n) (by kernel_rfl) (by kernel_rfl) (by kernel_rfl) laws_FnRounds_de ((laws_FnRounds_tie n code0).trans h)
theorem entsOk (n : Nat) : EntsOk Try.prog (ents n) (ents n) := ⟨laws_big_ok n, spec_l1New_ok n, spec_l1Byte_ok n, spec_l1Below_ok n, spec_l1In_ok n, spec_OneWay_ok n, spec_l1Once_ok n, spec_l19Draw_ok n, spec_l19DrawCarts_ok n, spec_DrawFloor_ok n, impl_in_ok n, impl_all_1_ok n, slices_IndexFunc_int_int__impl_all_1_ok n, slices_ContainsFunc_int_int__impl_all_1_ok n, impl_all_ok n, impl_FloorOk_ok n, impl_Floor_place_ok n, impl_CartsOk_1_ok n, slices_IndexFunc_impl_Cart_impl_Cart__impl_CartsOk_1_ok n, slices_ContainsFunc_impl_Cart_impl_Cart__impl_CartsOk_1_ok n, impl_CartsOk_ok n, impl_Floor_leads_ok n, impl_Hops_1_ok n, slices_IndexFunc_int_int__impl_Hops_1_ok n, slices_ContainsFunc_int_int__impl_Hops_1_ok n, impl_Hops_ok n, impl_Floor_want_ok n, impl_Round_1_ok n, impl_own_impl_Cart_ok n, impl_own_int_ok n, impl_Round_ok n, slices_Index_int_int_ok n, slices_Contains_int_int_ok n, impl_Stuck_ok n, laws_within_ok n, spec_l3All_ok n, spec_FloorOk_ok n, spec_l19Next_ok n, spec_Hops_ok n, impl_Settle19_1_ok n, slices_IndexFunc_impl_Cart_impl_Cart__impl_Settle19_1_ok n, slices_ContainsFunc_impl_Cart_impl_Cart__impl_Settle19_1_ok n, impl_Settle19_ok n, laws_FnRounds_ok n, trivial⟩
theorem sem (n i : Nat) : SemOk (Phi n i) (CallOk Try.prog T) := phiE_ok (entsOk n) i
end Go.Sm.C8
