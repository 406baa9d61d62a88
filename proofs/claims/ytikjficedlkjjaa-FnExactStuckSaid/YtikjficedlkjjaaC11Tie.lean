import Derived.Test.YtikjficedlkjjaaC11Tb
import Derived.KernelRfl
/- Each function's code computes what the plain function computes. -/
set_option linter.unusedSimpArgs false
set_option linter.deprecated false
set_option linter.unusedSectionVars false
set_option linter.unusedVariables false
set_option maxRecDepth 100000
open Go Go.Proofs
noncomputable section
namespace Go.Sm.C11
/-- By recursors, and of a greater height than all of the functions: the kernel takes these apart first. -/
def obind {α β : Type} (o : Option α) (f : α → Option β) : Option β := let _ := @laws_FnExactStuck; Option.rec (motive := fun _ => Option β) none (fun a => f a) o
theorem obind_some {α β : Type} {o : Option α} {f : α → Option β} {y : β} (h : obind o f = some y) : ∃ a, o = some a ∧ f a = some y := by
  cases o with
  | none => cases h
  | some a => exact ⟨a, rfl, h⟩
def ocons {β : Type} (l : List (A T)) (f : A T → List (A T) → Option β) : Option β := let _ := @laws_FnExactStuck; List.rec (motive := fun _ => Option β) none (fun a r _ => f a r) l
theorem ocons_some {β : Type} {l : List (A T)} {f : A T → List (A T) → Option β} {y : β} (h : ocons l f = some y) : ∃ a r, l = a :: r ∧ f a r = some y := by
  cases l with
  | nil => cases h
  | cons a r => exact ⟨a, r, rfl, h⟩
def onil {β : Type} (l : List (A T)) (x : Option β) : Option β := let _ := @laws_FnExactStuck; List.rec (motive := fun _ => Option β) x (fun _ _ _ => none) l
theorem onil_some {β : Type} {l : List (A T)} {x : Option β} {y : β} (h : onil l x = some y) : l = [] ∧ x = some y := by
  cases l with
  | nil => exact ⟨rfl, h⟩
  | cons a r => cases h
def laws_szIntS_dec (res : Res T) : Option Int := match res.rets, res.outs with
  | [a0], [] => (retV (T := T) 3 a0).bind fun r0 => some (r0)
  | _, _ => none
def laws_szIntS_enc (y : Int) : Res T := ⟨[vR T 3 y], []⟩
theorem laws_szIntS_de (res : Res T) (y : Int) (h : laws_szIntS_dec res = some y) : res = laws_szIntS_enc y := by
  obtain ⟨rets, outs⟩ := res
  unfold laws_szIntS_dec at h
  dsimp only at h
  split at h
  · obtain ⟨r0, h0, h⟩ := Option.bind_eq_some_iff.1 h
    cases h
    rw [retV_eq ok h0]
    rfl
  · cases h
def laws_szFloor_dec (res : Res T) : Option Int := match res.rets, res.outs with
  | [a0], [] => (retV (T := T) 3 a0).bind fun r0 => some (r0)
  | _, _ => none
def laws_szFloor_enc (y : Int) : Res T := ⟨[vR T 3 y], []⟩
theorem laws_szFloor_de (res : Res T) (y : Int) (h : laws_szFloor_dec res = some y) : res = laws_szFloor_enc y := by
  obtain ⟨rets, outs⟩ := res
  unfold laws_szFloor_dec at h
  dsimp only at h
  split at h
  · obtain ⟨r0, h0, h⟩ := Option.bind_eq_some_iff.1 h
    cases h
    rw [retV_eq ok h0]
    rfl
  · cases h
def laws_szCartS_dec (res : Res T) : Option Int := match res.rets, res.outs with
  | [a0], [] => (retV (T := T) 3 a0).bind fun r0 => some (r0)
  | _, _ => none
def laws_szCartS_enc (y : Int) : Res T := ⟨[vR T 3 y], []⟩
theorem laws_szCartS_de (res : Res T) (y : Int) (h : laws_szCartS_dec res = some y) : res = laws_szCartS_enc y := by
  obtain ⟨rets, outs⟩ := res
  unfold laws_szCartS_dec at h
  dsimp only at h
  split at h
  · obtain ⟨r0, h0, h⟩ := Option.bind_eq_some_iff.1 h
    cases h
    rw [retV_eq ok h0]
    rfl
  · cases h
def laws_toIntS_dec (res : Res T) : Option (List Int) := match res.rets, res.outs with
  | [a0], [] => (retV (T := T) 41 a0).bind fun r0 => some (r0)
  | _, _ => none
def laws_toIntS_enc (y : List Int) : Res T := ⟨[vR T 41 y], []⟩
theorem laws_toIntS_de (res : Res T) (y : List Int) (h : laws_toIntS_dec res = some y) : res = laws_toIntS_enc y := by
  obtain ⟨rets, outs⟩ := res
  unfold laws_toIntS_dec at h
  dsimp only at h
  split at h
  · obtain ⟨r0, h0, h⟩ := Option.bind_eq_some_iff.1 h
    cases h
    rw [retV_eq ok h0]
    rfl
  · cases h
def laws_toFloor_dec (res : Res T) : Option SFloor := match res.rets, res.outs with
  | [a0], [] => (retV (T := T) 71 a0).bind fun r0 => some (r0)
  | _, _ => none
def laws_toFloor_enc (y : SFloor) : Res T := ⟨[vR T 71 y], []⟩
theorem laws_toFloor_de (res : Res T) (y : SFloor) (h : laws_toFloor_dec res = some y) : res = laws_toFloor_enc y := by
  obtain ⟨rets, outs⟩ := res
  unfold laws_toFloor_dec at h
  dsimp only at h
  split at h
  · obtain ⟨r0, h0, h⟩ := Option.bind_eq_some_iff.1 h
    cases h
    rw [retV_eq ok h0]
    rfl
  · cases h
def laws_toCart_dec (res : Res T) : Option SCart := match res.rets, res.outs with
  | [a0], [] => (retV (T := T) 81 a0).bind fun r0 => some (r0)
  | _, _ => none
def laws_toCart_enc (y : SCart) : Res T := ⟨[vR T 81 y], []⟩
theorem laws_toCart_de (res : Res T) (y : SCart) (h : laws_toCart_dec res = some y) : res = laws_toCart_enc y := by
  obtain ⟨rets, outs⟩ := res
  unfold laws_toCart_dec at h
  dsimp only at h
  split at h
  · obtain ⟨r0, h0, h⟩ := Option.bind_eq_some_iff.1 h
    cases h
    rw [retV_eq ok h0]
    rfl
  · cases h
def laws_toCartS_dec (res : Res T) : Option (List SCart) := match res.rets, res.outs with
  | [a0], [] => (retV (T := T) 72 a0).bind fun r0 => some (r0)
  | _, _ => none
def laws_toCartS_enc (y : List SCart) : Res T := ⟨[vR T 72 y], []⟩
theorem laws_toCartS_de (res : Res T) (y : List SCart) (h : laws_toCartS_dec res = some y) : res = laws_toCartS_enc y := by
  obtain ⟨rets, outs⟩ := res
  unfold laws_toCartS_dec at h
  dsimp only at h
  split at h
  · obtain ⟨r0, h0, h⟩ := Option.bind_eq_some_iff.1 h
    cases h
    rw [retV_eq ok h0]
    rfl
  · cases h
def spec_l1In_dec (res : Res T) : Option Bool := match res.rets, res.outs with
  | [a0], [] => (retV (T := T) 4 a0).bind fun r0 => some (r0)
  | _, _ => none
def spec_l1In_enc (y : Bool) : Res T := ⟨[vR T 4 y], []⟩
theorem spec_l1In_de (res : Res T) (y : Bool) (h : spec_l1In_dec res = some y) : res = spec_l1In_enc y := by
  obtain ⟨rets, outs⟩ := res
  unfold spec_l1In_dec at h
  dsimp only at h
  split at h
  · obtain ⟨r0, h0, h⟩ := Option.bind_eq_some_iff.1 h
    cases h
    rw [retV_eq ok h0]
    rfl
  · cases h
def spec_l3All_dec (res : Res T) : Option Bool := match res.rets, res.outs with
  | [a0], [] => (retV (T := T) 4 a0).bind fun r0 => some (r0)
  | _, _ => none
def spec_l3All_enc (y : Bool) : Res T := ⟨[vR T 4 y], []⟩
theorem spec_l3All_de (res : Res T) (y : Bool) (h : spec_l3All_dec res = some y) : res = spec_l3All_enc y := by
  obtain ⟨rets, outs⟩ := res
  unfold spec_l3All_dec at h
  dsimp only at h
  split at h
  · obtain ⟨r0, h0, h⟩ := Option.bind_eq_some_iff.1 h
    cases h
    rw [retV_eq ok h0]
    rfl
  · cases h
def spec_FloorOk_dec (res : Res T) : Option Bool := match res.rets, res.outs with
  | [a0], [] => (retV (T := T) 4 a0).bind fun r0 => some (r0)
  | _, _ => none
def spec_FloorOk_enc (y : Bool) : Res T := ⟨[vR T 4 y], []⟩
theorem spec_FloorOk_de (res : Res T) (y : Bool) (h : spec_FloorOk_dec res = some y) : res = spec_FloorOk_enc y := by
  obtain ⟨rets, outs⟩ := res
  unfold spec_FloorOk_dec at h
  dsimp only at h
  split at h
  · obtain ⟨r0, h0, h⟩ := Option.bind_eq_some_iff.1 h
    cases h
    rw [retV_eq ok h0]
    rfl
  · cases h
def spec_CartsOk_dec (res : Res T) : Option Bool := match res.rets, res.outs with
  | [a0], [] => (retV (T := T) 4 a0).bind fun r0 => some (r0)
  | _, _ => none
def spec_CartsOk_enc (y : Bool) : Res T := ⟨[vR T 4 y], []⟩
theorem spec_CartsOk_de (res : Res T) (y : Bool) (h : spec_CartsOk_dec res = some y) : res = spec_CartsOk_enc y := by
  obtain ⟨rets, outs⟩ := res
  unfold spec_CartsOk_dec at h
  dsimp only at h
  split at h
  · obtain ⟨r0, h0, h⟩ := Option.bind_eq_some_iff.1 h
    cases h
    rw [retV_eq ok h0]
    rfl
  · cases h
def spec_l19Next_dec (res : Res T) : Option Int := match res.rets, res.outs with
  | [a0], [] => (retV (T := T) 3 a0).bind fun r0 => some (r0)
  | _, _ => none
def spec_l19Next_enc (y : Int) : Res T := ⟨[vR T 3 y], []⟩
theorem spec_l19Next_de (res : Res T) (y : Int) (h : spec_l19Next_dec res = some y) : res = spec_l19Next_enc y := by
  obtain ⟨rets, outs⟩ := res
  unfold spec_l19Next_dec at h
  dsimp only at h
  split at h
  · obtain ⟨r0, h0, h⟩ := Option.bind_eq_some_iff.1 h
    cases h
    rw [retV_eq ok h0]
    rfl
  · cases h
def spec_Hops_dec (res : Res T) : Option (List Int × Bool) := match res.rets, res.outs with
  | [a0, a1], [] => (retV (T := T) 41 a0).bind fun r0 => (retV (T := T) 4 a1).bind fun r1 => some (r0, r1)
  | _, _ => none
def spec_Hops_enc (y : List Int × Bool) : Res T := ⟨[vR T 41 y.1, vR T 4 y.2], []⟩
theorem spec_Hops_de (res : Res T) (y : List Int × Bool) (h : spec_Hops_dec res = some y) : res = spec_Hops_enc y := by
  obtain ⟨rets, outs⟩ := res
  unfold spec_Hops_dec at h
  dsimp only at h
  split at h
  · obtain ⟨r0, h0, h⟩ := Option.bind_eq_some_iff.1 h
    obtain ⟨r1, h1, h⟩ := Option.bind_eq_some_iff.1 h
    cases h
    rw [retV_eq ok h0, retV_eq ok h1]
    rfl
  · cases h
def spec_l19Want_dec (res : Res T) : Option Int := match res.rets, res.outs with
  | [a0], [] => (retV (T := T) 3 a0).bind fun r0 => some (r0)
  | _, _ => none
def spec_l19Want_enc (y : Int) : Res T := ⟨[vR T 3 y], []⟩
theorem spec_l19Want_de (res : Res T) (y : Int) (h : spec_l19Want_dec res = some y) : res = spec_l19Want_enc y := by
  obtain ⟨rets, outs⟩ := res
  unfold spec_l19Want_dec at h
  dsimp only at h
  split at h
  · obtain ⟨r0, h0, h⟩ := Option.bind_eq_some_iff.1 h
    cases h
    rw [retV_eq ok h0]
    rfl
  · cases h
def spec_l19Struck_dec (res : Res T) : Option Bool := match res.rets, res.outs with
  | [a0], [] => (retV (T := T) 4 a0).bind fun r0 => some (r0)
  | _, _ => none
def spec_l19Struck_enc (y : Bool) : Res T := ⟨[vR T 4 y], []⟩
theorem spec_l19Struck_de (res : Res T) (y : Bool) (h : spec_l19Struck_dec res = some y) : res = spec_l19Struck_enc y := by
  obtain ⟨rets, outs⟩ := res
  unfold spec_l19Struck_dec at h
  dsimp only at h
  split at h
  · obtain ⟨r0, h0, h⟩ := Option.bind_eq_some_iff.1 h
    cases h
    rw [retV_eq ok h0]
    rfl
  · cases h
def spec_Round_dec (res : Res T) : Option (List SCart × List Int × Bool) := match res.rets, res.outs with
  | [a0, a1, a2], [] => (retV (T := T) 72 a0).bind fun r0 => (retV (T := T) 41 a1).bind fun r1 => (retV (T := T) 4 a2).bind fun r2 => some (r0, r1, r2)
  | _, _ => none
def spec_Round_enc (y : List SCart × List Int × Bool) : Res T := ⟨[vR T 72 y.1, vR T 41 y.2.1, vR T 4 y.2.2], []⟩
theorem spec_Round_de (res : Res T) (y : List SCart × List Int × Bool) (h : spec_Round_dec res = some y) : res = spec_Round_enc y := by
  obtain ⟨rets, outs⟩ := res
  unfold spec_Round_dec at h
  dsimp only at h
  split at h
  · obtain ⟨r0, h0, h⟩ := Option.bind_eq_some_iff.1 h
    obtain ⟨r1, h1, h⟩ := Option.bind_eq_some_iff.1 h
    obtain ⟨r2, h2, h⟩ := Option.bind_eq_some_iff.1 h
    cases h
    rw [retV_eq ok h0, retV_eq ok h1, retV_eq ok h2]
    rfl
  · cases h
def spec_l9Has_dec (res : Res T) : Option Bool := match res.rets, res.outs with
  | [a0], [] => (retV (T := T) 4 a0).bind fun r0 => some (r0)
  | _, _ => none
def spec_l9Has_enc (y : Bool) : Res T := ⟨[vR T 4 y], []⟩
theorem spec_l9Has_de (res : Res T) (y : Bool) (h : spec_l9Has_dec res = some y) : res = spec_l9Has_enc y := by
  obtain ⟨rets, outs⟩ := res
  unfold spec_l9Has_dec at h
  dsimp only at h
  split at h
  · obtain ⟨r0, h0, h⟩ := Option.bind_eq_some_iff.1 h
    cases h
    rw [retV_eq ok h0]
    rfl
  · cases h
def spec_Stuck_dec (res : Res T) : Option (List Int × Bool) := match res.rets, res.outs with
  | [a0, a1], [] => (retV (T := T) 41 a0).bind fun r0 => (retV (T := T) 4 a1).bind fun r1 => some (r0, r1)
  | _, _ => none
def spec_Stuck_enc (y : List Int × Bool) : Res T := ⟨[vR T 41 y.1, vR T 4 y.2], []⟩
theorem spec_Stuck_de (res : Res T) (y : List Int × Bool) (h : spec_Stuck_dec res = some y) : res = spec_Stuck_enc y := by
  obtain ⟨rets, outs⟩ := res
  unfold spec_Stuck_dec at h
  dsimp only at h
  split at h
  · obtain ⟨r0, h0, h⟩ := Option.bind_eq_some_iff.1 h
    obtain ⟨r1, h1, h⟩ := Option.bind_eq_some_iff.1 h
    cases h
    rw [retV_eq ok h0, retV_eq ok h1]
    rfl
  · cases h
def impl_in_dec (res : Res T) : Option Bool := match res.rets, res.outs with
  | [a0], [] => (retV (T := T) 4 a0).bind fun r0 => some (r0)
  | _, _ => none
def impl_in_enc (y : Bool) : Res T := ⟨[vR T 4 y], []⟩
theorem impl_in_de (res : Res T) (y : Bool) (h : impl_in_dec res = some y) : res = impl_in_enc y := by
  obtain ⟨rets, outs⟩ := res
  unfold impl_in_dec at h
  dsimp only at h
  split at h
  · obtain ⟨r0, h0, h⟩ := Option.bind_eq_some_iff.1 h
    cases h
    rw [retV_eq ok h0]
    rfl
  · cases h
def impl_all_1_dec (res : Res T) : Option Bool := match res.rets, res.outs with
  | [a0], [] => (retV (T := T) 4 a0).bind fun r0 => some (r0)
  | _, _ => none
def impl_all_1_enc (y : Bool) : Res T := ⟨[vR T 4 y], []⟩
theorem impl_all_1_de (res : Res T) (y : Bool) (h : impl_all_1_dec res = some y) : res = impl_all_1_enc y := by
  obtain ⟨rets, outs⟩ := res
  unfold impl_all_1_dec at h
  dsimp only at h
  split at h
  · obtain ⟨r0, h0, h⟩ := Option.bind_eq_some_iff.1 h
    cases h
    rw [retV_eq ok h0]
    rfl
  · cases h
def slices_IndexFunc_int_int__impl_all_1_dec (res : Res T) : Option Int := match res.rets, res.outs with
  | [a0], [] => (retV (T := T) 3 a0).bind fun r0 => some (r0)
  | _, _ => none
def slices_IndexFunc_int_int__impl_all_1_enc (y : Int) : Res T := ⟨[vR T 3 y], []⟩
theorem slices_IndexFunc_int_int__impl_all_1_de (res : Res T) (y : Int) (h : slices_IndexFunc_int_int__impl_all_1_dec res = some y) : res = slices_IndexFunc_int_int__impl_all_1_enc y := by
  obtain ⟨rets, outs⟩ := res
  unfold slices_IndexFunc_int_int__impl_all_1_dec at h
  dsimp only at h
  split at h
  · obtain ⟨r0, h0, h⟩ := Option.bind_eq_some_iff.1 h
    cases h
    rw [retV_eq ok h0]
    rfl
  · cases h
def slices_ContainsFunc_int_int__impl_all_1_dec (res : Res T) : Option Bool := match res.rets, res.outs with
  | [a0], [] => (retV (T := T) 4 a0).bind fun r0 => some (r0)
  | _, _ => none
def slices_ContainsFunc_int_int__impl_all_1_enc (y : Bool) : Res T := ⟨[vR T 4 y], []⟩
theorem slices_ContainsFunc_int_int__impl_all_1_de (res : Res T) (y : Bool) (h : slices_ContainsFunc_int_int__impl_all_1_dec res = some y) : res = slices_ContainsFunc_int_int__impl_all_1_enc y := by
  obtain ⟨rets, outs⟩ := res
  unfold slices_ContainsFunc_int_int__impl_all_1_dec at h
  dsimp only at h
  split at h
  · obtain ⟨r0, h0, h⟩ := Option.bind_eq_some_iff.1 h
    cases h
    rw [retV_eq ok h0]
    rfl
  · cases h
def impl_all_dec (res : Res T) : Option Bool := match res.rets, res.outs with
  | [a0], [] => (retV (T := T) 4 a0).bind fun r0 => some (r0)
  | _, _ => none
def impl_all_enc (y : Bool) : Res T := ⟨[vR T 4 y], []⟩
theorem impl_all_de (res : Res T) (y : Bool) (h : impl_all_dec res = some y) : res = impl_all_enc y := by
  obtain ⟨rets, outs⟩ := res
  unfold impl_all_dec at h
  dsimp only at h
  split at h
  · obtain ⟨r0, h0, h⟩ := Option.bind_eq_some_iff.1 h
    cases h
    rw [retV_eq ok h0]
    rfl
  · cases h
def impl_FloorOk_dec (res : Res T) : Option Bool := match res.rets, res.outs with
  | [a0], [] => (retV (T := T) 4 a0).bind fun r0 => some (r0)
  | _, _ => none
def impl_FloorOk_enc (y : Bool) : Res T := ⟨[vR T 4 y], []⟩
theorem impl_FloorOk_de (res : Res T) (y : Bool) (h : impl_FloorOk_dec res = some y) : res = impl_FloorOk_enc y := by
  obtain ⟨rets, outs⟩ := res
  unfold impl_FloorOk_dec at h
  dsimp only at h
  split at h
  · obtain ⟨r0, h0, h⟩ := Option.bind_eq_some_iff.1 h
    cases h
    rw [retV_eq ok h0]
    rfl
  · cases h
def impl_Floor_place_dec (res : Res T) : Option Bool := match res.rets, res.outs with
  | [a0], [] => (retV (T := T) 4 a0).bind fun r0 => some (r0)
  | _, _ => none
def impl_Floor_place_enc (y : Bool) : Res T := ⟨[vR T 4 y], []⟩
theorem impl_Floor_place_de (res : Res T) (y : Bool) (h : impl_Floor_place_dec res = some y) : res = impl_Floor_place_enc y := by
  obtain ⟨rets, outs⟩ := res
  unfold impl_Floor_place_dec at h
  dsimp only at h
  split at h
  · obtain ⟨r0, h0, h⟩ := Option.bind_eq_some_iff.1 h
    cases h
    rw [retV_eq ok h0]
    rfl
  · cases h
def impl_CartsOk_1_dec (res : Res T) : Option Bool := match res.rets, res.outs with
  | [a0], [] => (retV (T := T) 4 a0).bind fun r0 => some (r0)
  | _, _ => none
def impl_CartsOk_1_enc (y : Bool) : Res T := ⟨[vR T 4 y], []⟩
theorem impl_CartsOk_1_de (res : Res T) (y : Bool) (h : impl_CartsOk_1_dec res = some y) : res = impl_CartsOk_1_enc y := by
  obtain ⟨rets, outs⟩ := res
  unfold impl_CartsOk_1_dec at h
  dsimp only at h
  split at h
  · obtain ⟨r0, h0, h⟩ := Option.bind_eq_some_iff.1 h
    cases h
    rw [retV_eq ok h0]
    rfl
  · cases h
def slices_IndexFunc_impl_Cart_impl_Cart__impl_CartsOk_1_dec (res : Res T) : Option Int := match res.rets, res.outs with
  | [a0], [] => (retV (T := T) 3 a0).bind fun r0 => some (r0)
  | _, _ => none
def slices_IndexFunc_impl_Cart_impl_Cart__impl_CartsOk_1_enc (y : Int) : Res T := ⟨[vR T 3 y], []⟩
theorem slices_IndexFunc_impl_Cart_impl_Cart__impl_CartsOk_1_de (res : Res T) (y : Int) (h : slices_IndexFunc_impl_Cart_impl_Cart__impl_CartsOk_1_dec res = some y) : res = slices_IndexFunc_impl_Cart_impl_Cart__impl_CartsOk_1_enc y := by
  obtain ⟨rets, outs⟩ := res
  unfold slices_IndexFunc_impl_Cart_impl_Cart__impl_CartsOk_1_dec at h
  dsimp only at h
  split at h
  · obtain ⟨r0, h0, h⟩ := Option.bind_eq_some_iff.1 h
    cases h
    rw [retV_eq ok h0]
    rfl
  · cases h
def slices_ContainsFunc_impl_Cart_impl_Cart__impl_CartsOk_1_dec (res : Res T) : Option Bool := match res.rets, res.outs with
  | [a0], [] => (retV (T := T) 4 a0).bind fun r0 => some (r0)
  | _, _ => none
def slices_ContainsFunc_impl_Cart_impl_Cart__impl_CartsOk_1_enc (y : Bool) : Res T := ⟨[vR T 4 y], []⟩
theorem slices_ContainsFunc_impl_Cart_impl_Cart__impl_CartsOk_1_de (res : Res T) (y : Bool) (h : slices_ContainsFunc_impl_Cart_impl_Cart__impl_CartsOk_1_dec res = some y) : res = slices_ContainsFunc_impl_Cart_impl_Cart__impl_CartsOk_1_enc y := by
  obtain ⟨rets, outs⟩ := res
  unfold slices_ContainsFunc_impl_Cart_impl_Cart__impl_CartsOk_1_dec at h
  dsimp only at h
  split at h
  · obtain ⟨r0, h0, h⟩ := Option.bind_eq_some_iff.1 h
    cases h
    rw [retV_eq ok h0]
    rfl
  · cases h
def impl_CartsOk_dec (res : Res T) : Option Bool := match res.rets, res.outs with
  | [a0], [] => (retV (T := T) 4 a0).bind fun r0 => some (r0)
  | _, _ => none
def impl_CartsOk_enc (y : Bool) : Res T := ⟨[vR T 4 y], []⟩
theorem impl_CartsOk_de (res : Res T) (y : Bool) (h : impl_CartsOk_dec res = some y) : res = impl_CartsOk_enc y := by
  obtain ⟨rets, outs⟩ := res
  unfold impl_CartsOk_dec at h
  dsimp only at h
  split at h
  · obtain ⟨r0, h0, h⟩ := Option.bind_eq_some_iff.1 h
    cases h
    rw [retV_eq ok h0]
    rfl
  · cases h
def impl_Floor_leads_dec (res : Res T) : Option (List Int) := match res.rets, res.outs with
  | [a0], [] => (retV (T := T) 41 a0).bind fun r0 => some (r0)
  | _, _ => none
def impl_Floor_leads_enc (y : List Int) : Res T := ⟨[vR T 41 y], []⟩
theorem impl_Floor_leads_de (res : Res T) (y : List Int) (h : impl_Floor_leads_dec res = some y) : res = impl_Floor_leads_enc y := by
  obtain ⟨rets, outs⟩ := res
  unfold impl_Floor_leads_dec at h
  dsimp only at h
  split at h
  · obtain ⟨r0, h0, h⟩ := Option.bind_eq_some_iff.1 h
    cases h
    rw [retV_eq ok h0]
    rfl
  · cases h
def impl_Hops_1_dec (res : Res T) : Option Bool := match res.rets, res.outs with
  | [a0], [] => (retV (T := T) 4 a0).bind fun r0 => some (r0)
  | _, _ => none
def impl_Hops_1_enc (y : Bool) : Res T := ⟨[vR T 4 y], []⟩
theorem impl_Hops_1_de (res : Res T) (y : Bool) (h : impl_Hops_1_dec res = some y) : res = impl_Hops_1_enc y := by
  obtain ⟨rets, outs⟩ := res
  unfold impl_Hops_1_dec at h
  dsimp only at h
  split at h
  · obtain ⟨r0, h0, h⟩ := Option.bind_eq_some_iff.1 h
    cases h
    rw [retV_eq ok h0]
    rfl
  · cases h
def slices_IndexFunc_int_int__impl_Hops_1_dec (res : Res T) : Option Int := match res.rets, res.outs with
  | [a0], [] => (retV (T := T) 3 a0).bind fun r0 => some (r0)
  | _, _ => none
def slices_IndexFunc_int_int__impl_Hops_1_enc (y : Int) : Res T := ⟨[vR T 3 y], []⟩
theorem slices_IndexFunc_int_int__impl_Hops_1_de (res : Res T) (y : Int) (h : slices_IndexFunc_int_int__impl_Hops_1_dec res = some y) : res = slices_IndexFunc_int_int__impl_Hops_1_enc y := by
  obtain ⟨rets, outs⟩ := res
  unfold slices_IndexFunc_int_int__impl_Hops_1_dec at h
  dsimp only at h
  split at h
  · obtain ⟨r0, h0, h⟩ := Option.bind_eq_some_iff.1 h
    cases h
    rw [retV_eq ok h0]
    rfl
  · cases h
def slices_ContainsFunc_int_int__impl_Hops_1_dec (res : Res T) : Option Bool := match res.rets, res.outs with
  | [a0], [] => (retV (T := T) 4 a0).bind fun r0 => some (r0)
  | _, _ => none
def slices_ContainsFunc_int_int__impl_Hops_1_enc (y : Bool) : Res T := ⟨[vR T 4 y], []⟩
theorem slices_ContainsFunc_int_int__impl_Hops_1_de (res : Res T) (y : Bool) (h : slices_ContainsFunc_int_int__impl_Hops_1_dec res = some y) : res = slices_ContainsFunc_int_int__impl_Hops_1_enc y := by
  obtain ⟨rets, outs⟩ := res
  unfold slices_ContainsFunc_int_int__impl_Hops_1_dec at h
  dsimp only at h
  split at h
  · obtain ⟨r0, h0, h⟩ := Option.bind_eq_some_iff.1 h
    cases h
    rw [retV_eq ok h0]
    rfl
  · cases h
def impl_Hops_dec (res : Res T) : Option (List Int × Bool) := match res.rets, res.outs with
  | [a0, a1], [] => (retV (T := T) 41 a0).bind fun r0 => (retV (T := T) 4 a1).bind fun r1 => some (r0, r1)
  | _, _ => none
def impl_Hops_enc (y : List Int × Bool) : Res T := ⟨[vR T 41 y.1, vR T 4 y.2], []⟩
theorem impl_Hops_de (res : Res T) (y : List Int × Bool) (h : impl_Hops_dec res = some y) : res = impl_Hops_enc y := by
  obtain ⟨rets, outs⟩ := res
  unfold impl_Hops_dec at h
  dsimp only at h
  split at h
  · obtain ⟨r0, h0, h⟩ := Option.bind_eq_some_iff.1 h
    obtain ⟨r1, h1, h⟩ := Option.bind_eq_some_iff.1 h
    cases h
    rw [retV_eq ok h0, retV_eq ok h1]
    rfl
  · cases h
def impl_Floor_want_dec (res : Res T) : Option Int := match res.rets, res.outs with
  | [a0], [] => (retV (T := T) 3 a0).bind fun r0 => some (r0)
  | _, _ => none
def impl_Floor_want_enc (y : Int) : Res T := ⟨[vR T 3 y], []⟩
theorem impl_Floor_want_de (res : Res T) (y : Int) (h : impl_Floor_want_dec res = some y) : res = impl_Floor_want_enc y := by
  obtain ⟨rets, outs⟩ := res
  unfold impl_Floor_want_dec at h
  dsimp only at h
  split at h
  · obtain ⟨r0, h0, h⟩ := Option.bind_eq_some_iff.1 h
    cases h
    rw [retV_eq ok h0]
    rfl
  · cases h
def impl_Round_1_dec (res : Res T) : Option Bool := match res.rets, res.outs with
  | [a0], [] => (retV (T := T) 4 a0).bind fun r0 => some (r0)
  | _, _ => none
def impl_Round_1_enc (y : Bool) : Res T := ⟨[vR T 4 y], []⟩
theorem impl_Round_1_de (res : Res T) (y : Bool) (h : impl_Round_1_dec res = some y) : res = impl_Round_1_enc y := by
  obtain ⟨rets, outs⟩ := res
  unfold impl_Round_1_dec at h
  dsimp only at h
  split at h
  · obtain ⟨r0, h0, h⟩ := Option.bind_eq_some_iff.1 h
    cases h
    rw [retV_eq ok h0]
    rfl
  · cases h
def impl_own_impl_Cart_dec (res : Res T) : Option (List SCart) := match res.rets, res.outs with
  | [a0], [] => (retV (T := T) 72 a0).bind fun r0 => some (r0)
  | _, _ => none
def impl_own_impl_Cart_enc (y : List SCart) : Res T := ⟨[vR T 72 y], []⟩
theorem impl_own_impl_Cart_de (res : Res T) (y : List SCart) (h : impl_own_impl_Cart_dec res = some y) : res = impl_own_impl_Cart_enc y := by
  obtain ⟨rets, outs⟩ := res
  unfold impl_own_impl_Cart_dec at h
  dsimp only at h
  split at h
  · obtain ⟨r0, h0, h⟩ := Option.bind_eq_some_iff.1 h
    cases h
    rw [retV_eq ok h0]
    rfl
  · cases h
def impl_own_int_dec (res : Res T) : Option (List Int) := match res.rets, res.outs with
  | [a0], [] => (retV (T := T) 41 a0).bind fun r0 => some (r0)
  | _, _ => none
def impl_own_int_enc (y : List Int) : Res T := ⟨[vR T 41 y], []⟩
theorem impl_own_int_de (res : Res T) (y : List Int) (h : impl_own_int_dec res = some y) : res = impl_own_int_enc y := by
  obtain ⟨rets, outs⟩ := res
  unfold impl_own_int_dec at h
  dsimp only at h
  split at h
  · obtain ⟨r0, h0, h⟩ := Option.bind_eq_some_iff.1 h
    cases h
    rw [retV_eq ok h0]
    rfl
  · cases h
def impl_Round_dec (res : Res T) : Option (List SCart × List Int × Bool) := match res.rets, res.outs with
  | [a0, a1, a2], [] => (retV (T := T) 72 a0).bind fun r0 => (retV (T := T) 41 a1).bind fun r1 => (retV (T := T) 4 a2).bind fun r2 => some (r0, r1, r2)
  | _, _ => none
def impl_Round_enc (y : List SCart × List Int × Bool) : Res T := ⟨[vR T 72 y.1, vR T 41 y.2.1, vR T 4 y.2.2], []⟩
theorem impl_Round_de (res : Res T) (y : List SCart × List Int × Bool) (h : impl_Round_dec res = some y) : res = impl_Round_enc y := by
  obtain ⟨rets, outs⟩ := res
  unfold impl_Round_dec at h
  dsimp only at h
  split at h
  · obtain ⟨r0, h0, h⟩ := Option.bind_eq_some_iff.1 h
    obtain ⟨r1, h1, h⟩ := Option.bind_eq_some_iff.1 h
    obtain ⟨r2, h2, h⟩ := Option.bind_eq_some_iff.1 h
    cases h
    rw [retV_eq ok h0, retV_eq ok h1, retV_eq ok h2]
    rfl
  · cases h
def slices_Index_int_int_dec (res : Res T) : Option Int := match res.rets, res.outs with
  | [a0], [] => (retV (T := T) 3 a0).bind fun r0 => some (r0)
  | _, _ => none
def slices_Index_int_int_enc (y : Int) : Res T := ⟨[vR T 3 y], []⟩
theorem slices_Index_int_int_de (res : Res T) (y : Int) (h : slices_Index_int_int_dec res = some y) : res = slices_Index_int_int_enc y := by
  obtain ⟨rets, outs⟩ := res
  unfold slices_Index_int_int_dec at h
  dsimp only at h
  split at h
  · obtain ⟨r0, h0, h⟩ := Option.bind_eq_some_iff.1 h
    cases h
    rw [retV_eq ok h0]
    rfl
  · cases h
def slices_Contains_int_int_dec (res : Res T) : Option Bool := match res.rets, res.outs with
  | [a0], [] => (retV (T := T) 4 a0).bind fun r0 => some (r0)
  | _, _ => none
def slices_Contains_int_int_enc (y : Bool) : Res T := ⟨[vR T 4 y], []⟩
theorem slices_Contains_int_int_de (res : Res T) (y : Bool) (h : slices_Contains_int_int_dec res = some y) : res = slices_Contains_int_int_enc y := by
  obtain ⟨rets, outs⟩ := res
  unfold slices_Contains_int_int_dec at h
  dsimp only at h
  split at h
  · obtain ⟨r0, h0, h⟩ := Option.bind_eq_some_iff.1 h
    cases h
    rw [retV_eq ok h0]
    rfl
  · cases h
def impl_Stuck_dec (res : Res T) : Option (List Int × Bool) := match res.rets, res.outs with
  | [a0, a1], [] => (retV (T := T) 41 a0).bind fun r0 => (retV (T := T) 4 a1).bind fun r1 => some (r0, r1)
  | _, _ => none
def impl_Stuck_enc (y : List Int × Bool) : Res T := ⟨[vR T 41 y.1, vR T 4 y.2], []⟩
theorem impl_Stuck_de (res : Res T) (y : List Int × Bool) (h : impl_Stuck_dec res = some y) : res = impl_Stuck_enc y := by
  obtain ⟨rets, outs⟩ := res
  unfold impl_Stuck_dec at h
  dsimp only at h
  split at h
  · obtain ⟨r0, h0, h⟩ := Option.bind_eq_some_iff.1 h
    obtain ⟨r1, h1, h⟩ := Option.bind_eq_some_iff.1 h
    cases h
    rw [retV_eq ok h0, retV_eq ok h1]
    rfl
  · cases h
def laws_eqIntS_dec (res : Res T) : Option Bool := match res.rets, res.outs with
  | [a0], [] => (retV (T := T) 4 a0).bind fun r0 => some (r0)
  | _, _ => none
def laws_eqIntS_enc (y : Bool) : Res T := ⟨[vR T 4 y], []⟩
theorem laws_eqIntS_de (res : Res T) (y : Bool) (h : laws_eqIntS_dec res = some y) : res = laws_eqIntS_enc y := by
  obtain ⟨rets, outs⟩ := res
  unfold laws_eqIntS_dec at h
  dsimp only at h
  split at h
  · obtain ⟨r0, h0, h⟩ := Option.bind_eq_some_iff.1 h
    cases h
    rw [retV_eq ok h0]
    rfl
  · cases h
def laws_eqFloor_dec (res : Res T) : Option Bool := match res.rets, res.outs with
  | [a0], [] => (retV (T := T) 4 a0).bind fun r0 => some (r0)
  | _, _ => none
def laws_eqFloor_enc (y : Bool) : Res T := ⟨[vR T 4 y], []⟩
theorem laws_eqFloor_de (res : Res T) (y : Bool) (h : laws_eqFloor_dec res = some y) : res = laws_eqFloor_enc y := by
  obtain ⟨rets, outs⟩ := res
  unfold laws_eqFloor_dec at h
  dsimp only at h
  split at h
  · obtain ⟨r0, h0, h⟩ := Option.bind_eq_some_iff.1 h
    cases h
    rw [retV_eq ok h0]
    rfl
  · cases h
def laws_eqCart_dec (res : Res T) : Option Bool := match res.rets, res.outs with
  | [a0], [] => (retV (T := T) 4 a0).bind fun r0 => some (r0)
  | _, _ => none
def laws_eqCart_enc (y : Bool) : Res T := ⟨[vR T 4 y], []⟩
theorem laws_eqCart_de (res : Res T) (y : Bool) (h : laws_eqCart_dec res = some y) : res = laws_eqCart_enc y := by
  obtain ⟨rets, outs⟩ := res
  unfold laws_eqCart_dec at h
  dsimp only at h
  split at h
  · obtain ⟨r0, h0, h⟩ := Option.bind_eq_some_iff.1 h
    cases h
    rw [retV_eq ok h0]
    rfl
  · cases h
def laws_eqCartS_dec (res : Res T) : Option Bool := match res.rets, res.outs with
  | [a0], [] => (retV (T := T) 4 a0).bind fun r0 => some (r0)
  | _, _ => none
def laws_eqCartS_enc (y : Bool) : Res T := ⟨[vR T 4 y], []⟩
theorem laws_eqCartS_de (res : Res T) (y : Bool) (h : laws_eqCartS_dec res = some y) : res = laws_eqCartS_enc y := by
  obtain ⟨rets, outs⟩ := res
  unfold laws_eqCartS_dec at h
  dsimp only at h
  split at h
  · obtain ⟨r0, h0, h⟩ := Option.bind_eq_some_iff.1 h
    cases h
    rw [retV_eq ok h0]
    rfl
  · cases h
def laws_markIntS_dec (res : Res T) : Option (Int × List Int) := match res.rets, res.outs with
  | [a0], [b0] => (retV (T := T) 3 a0).bind fun r0 => (outS (T := T) 3 b0).bind fun r1 => some (r0, r1)
  | _, _ => none
def laws_markIntS_enc (y : Int × List Int) : Res T := ⟨[vR T 3 y.1], [.sl 3 y.2]⟩
theorem laws_markIntS_de (res : Res T) (y : Int × List Int) (h : laws_markIntS_dec res = some y) : res = laws_markIntS_enc y := by
  obtain ⟨rets, outs⟩ := res
  unfold laws_markIntS_dec at h
  dsimp only at h
  split at h
  · obtain ⟨r0, h0, h⟩ := Option.bind_eq_some_iff.1 h
    obtain ⟨r1, h1, h⟩ := Option.bind_eq_some_iff.1 h
    cases h
    rw [retV_eq ok h0, outS_eq h1]
    rfl
  · cases h
def laws_markFloor_dec (res : Res T) : Option (Int × List Int) := match res.rets, res.outs with
  | [a0], [b0] => (retV (T := T) 3 a0).bind fun r0 => (outS (T := T) 3 b0).bind fun r1 => some (r0, r1)
  | _, _ => none
def laws_markFloor_enc (y : Int × List Int) : Res T := ⟨[vR T 3 y.1], [.sl 3 y.2]⟩
theorem laws_markFloor_de (res : Res T) (y : Int × List Int) (h : laws_markFloor_dec res = some y) : res = laws_markFloor_enc y := by
  obtain ⟨rets, outs⟩ := res
  unfold laws_markFloor_dec at h
  dsimp only at h
  split at h
  · obtain ⟨r0, h0, h⟩ := Option.bind_eq_some_iff.1 h
    obtain ⟨r1, h1, h⟩ := Option.bind_eq_some_iff.1 h
    cases h
    rw [retV_eq ok h0, outS_eq h1]
    rfl
  · cases h
def laws_markCartS_dec (res : Res T) : Option (Int × List SCart) := match res.rets, res.outs with
  | [a0], [b0] => (retV (T := T) 3 a0).bind fun r0 => (outS (T := T) 81 b0).bind fun r1 => some (r0, r1)
  | _, _ => none
def laws_markCartS_enc (y : Int × List SCart) : Res T := ⟨[vR T 3 y.1], [.sl 81 y.2]⟩
theorem laws_markCartS_de (res : Res T) (y : Int × List SCart) (h : laws_markCartS_dec res = some y) : res = laws_markCartS_enc y := by
  obtain ⟨rets, outs⟩ := res
  unfold laws_markCartS_dec at h
  dsimp only at h
  split at h
  · obtain ⟨r0, h0, h⟩ := Option.bind_eq_some_iff.1 h
    obtain ⟨r1, h1, h⟩ := Option.bind_eq_some_iff.1 h
    cases h
    rw [retV_eq ok h0, outS_eq h1]
    rfl
  · cases h
def laws_heldIntS_dec (res : Res T) : Option Int := match res.rets, res.outs with
  | [a0], [] => (retV (T := T) 3 a0).bind fun r0 => some (r0)
  | _, _ => none
def laws_heldIntS_enc (y : Int) : Res T := ⟨[vR T 3 y], []⟩
theorem laws_heldIntS_de (res : Res T) (y : Int) (h : laws_heldIntS_dec res = some y) : res = laws_heldIntS_enc y := by
  obtain ⟨rets, outs⟩ := res
  unfold laws_heldIntS_dec at h
  dsimp only at h
  split at h
  · obtain ⟨r0, h0, h⟩ := Option.bind_eq_some_iff.1 h
    cases h
    rw [retV_eq ok h0]
    rfl
  · cases h
def laws_FnExactStuck_dec (res : Res T) : Option Bool := match res.rets, res.outs with
  | [a0], [] => (retV (T := T) 4 a0).bind fun r0 => some (r0)
  | _, _ => none
def laws_FnExactStuck_enc (y : Bool) : Res T := ⟨[vR T 4 y], []⟩
theorem laws_FnExactStuck_de (res : Res T) (y : Bool) (h : laws_FnExactStuck_dec res = some y) : res = laws_FnExactStuck_enc y := by
  obtain ⟨rets, outs⟩ := res
  unfold laws_FnExactStuck_dec at h
  dsimp only at h
  split at h
  · obtain ⟨r0, h0, h⟩ := Option.bind_eq_some_iff.1 h
    cases h
    rw [retV_eq ok h0]
    rfl
  · cases h
def laws_szIntS_D (n : Nat) (r0 : List (A T)) : Option Int := ocons r0 fun a0 r1 => ocons r1 fun a1 r2 => onil r2 (obind (argV (T := T) 41 a0) fun a0 => obind (argV (T := T) 3 a1) fun left1 => laws_szIntS n a0 left1)
def laws_szIntS_ent (n : Nat) : Ent T := ⟨131, 0, [], Int, laws_szIntS_D n, laws_szIntS_enc⟩
def laws_szFloor_D (n : Nat) (r0 : List (A T)) : Option Int := ocons r0 fun a0 r1 => ocons r1 fun a1 r2 => onil r2 (obind (argV (T := T) 86 a0) fun a0 => obind (argV (T := T) 3 a1) fun left1 => laws_szFloor n a0 left1)
def laws_szFloor_ent (n : Nat) : Ent T := ⟨50, 1, [], Int, laws_szFloor_D n, laws_szFloor_enc⟩
def laws_szCartS_D (n : Nat) (r0 : List (A T)) : Option Int := ocons r0 fun a0 r1 => ocons r1 fun a1 r2 => onil r2 (obind (argV (T := T) 87 a0) fun a0 => obind (argV (T := T) 3 a1) fun left1 => laws_szCartS n a0 left1)
def laws_szCartS_ent (n : Nat) : Ent T := ⟨51, 2, [], Int, laws_szCartS_D n, laws_szCartS_enc⟩
def laws_toIntS_D (n : Nat) (r0 : List (A T)) : Option (List Int) := ocons r0 fun a0 r1 => onil r1 (obind (argV (T := T) 41 a0) fun a0 => laws_toIntS n a0)
def laws_toIntS_ent (n : Nat) : Ent T := ⟨135, 3, [], List Int, laws_toIntS_D n, laws_toIntS_enc⟩
def laws_toFloor_D (n : Nat) (r0 : List (A T)) : Option SFloor := ocons r0 fun a0 r1 => onil r1 (obind (argV (T := T) 86 a0) fun a0 => laws_toFloor n a0)
def laws_toFloor_ent (n : Nat) : Ent T := ⟨53, 4, [], SFloor, laws_toFloor_D n, laws_toFloor_enc⟩
def laws_toCart_D (n : Nat) (r0 : List (A T)) : Option SCart := ocons r0 fun a0 r1 => onil r1 (obind (argV (T := T) 157 a0) fun a0 => laws_toCart n a0)
def laws_toCart_ent (n : Nat) : Ent T := ⟨136, 5, [], SCart, laws_toCart_D n, laws_toCart_enc⟩
def laws_toCartS_D (n : Nat) (r0 : List (A T)) : Option (List SCart) := ocons r0 fun a0 r1 => onil r1 (obind (argV (T := T) 87 a0) fun a0 => laws_toCartS n a0)
def laws_toCartS_ent (n : Nat) : Ent T := ⟨54, 6, [], List SCart, laws_toCartS_D n, laws_toCartS_enc⟩
def spec_l1In_D (n : Nat) (r0 : List (A T)) : Option Bool := ocons r0 fun a0 r1 => ocons r1 fun a1 r2 => ocons r2 fun a2 r3 => onil r3 (obind (argV (T := T) 3 a0) fun x0 => obind (argV (T := T) 3 a1) fun a1 => obind (argV (T := T) 3 a2) fun b2 => spec_l1In n x0 a1 b2)
def spec_l1In_ent (n : Nat) : Ent T := ⟨71, 7, [], Bool, spec_l1In_D n, spec_l1In_enc⟩
def spec_l3All_D (n : Nat) (r0 : List (A T)) : Option Bool := ocons r0 fun a0 r1 => ocons r1 fun a1 r2 => ocons r2 fun a2 r3 => onil r3 (obind (argV (T := T) 41 a0) fun list0 => obind (argV (T := T) 3 a1) fun a1 => obind (argV (T := T) 3 a2) fun b2 => spec_l3All n list0 a1 b2)
def spec_l3All_ent (n : Nat) : Ent T := ⟨168, 8, [], Bool, spec_l3All_D n, spec_l3All_enc⟩
def spec_FloorOk_D (n : Nat) (r0 : List (A T)) : Option Bool := ocons r0 fun a0 r1 => onil r1 (obind (argV (T := T) 71 a0) fun f0 => spec_FloorOk n f0)
def spec_FloorOk_ent (n : Nat) : Ent T := ⟨128, 9, [], Bool, spec_FloorOk_D n, spec_FloorOk_enc⟩
def spec_CartsOk_D (n : Nat) (r0 : List (A T)) : Option Bool := ocons r0 fun a0 r1 => ocons r1 fun a1 r2 => onil r2 (obind (argV (T := T) 71 a0) fun f0 => obind (argV (T := T) 72 a1) fun carts1 => spec_CartsOk n f0 carts1)
def spec_CartsOk_ent (n : Nat) : Ent T := ⟨132, 10, [], Bool, spec_CartsOk_D n, spec_CartsOk_enc⟩
def spec_l19Next_D (n : Nat) (r0 : List (A T)) : Option Int := ocons r0 fun a0 r1 => ocons r1 fun a1 r2 => ocons r2 fun a2 r3 => onil r3 (obind (argV (T := T) 71 a0) fun f0 => obind (argV (T := T) 3 a1) fun p1 => obind (argV (T := T) 3 a2) fun bit2 => spec_l19Next n f0 p1 bit2)
def spec_l19Next_ent (n : Nat) : Ent T := ⟨129, 11, [], Int, spec_l19Next_D n, spec_l19Next_enc⟩
def spec_Hops_D (n : Nat) (r0 : List (A T)) : Option (List Int × Bool) := ocons r0 fun a0 r1 => ocons r1 fun a1 r2 => onil r2 (obind (argV (T := T) 71 a0) fun f0 => obind (argV (T := T) 3 a1) fun goal1 => spec_Hops n f0 goal1)
def spec_Hops_ent (n : Nat) : Ent T := ⟨48, 12, [], List Int × Bool, spec_Hops_D n, spec_Hops_enc⟩
def spec_l19Want_D (n : Nat) (r0 : List (A T)) : Option Int := ocons r0 fun a0 r1 => ocons r1 fun a1 r2 => onil r2 (obind (argV (T := T) 71 a0) fun f0 => obind (argV (T := T) 81 a1) fun c1 => spec_l19Want n f0 c1)
def spec_l19Want_ent (n : Nat) : Ent T := ⟨133, 13, [], Int, spec_l19Want_D n, spec_l19Want_enc⟩
def spec_l19Struck_D (n : Nat) (r0 : List (A T)) : Option Bool := ocons r0 fun a0 r1 => ocons r1 fun a1 r2 => ocons r2 fun a2 r3 => onil r3 (obind (argV (T := T) 72 a0) fun carts0 => obind (argV (T := T) 41 a1) fun wants1 => obind (argV (T := T) 3 a2) fun i2 => spec_l19Struck n carts0 wants1 i2)
def spec_l19Struck_ent (n : Nat) : Ent T := ⟨134, 14, [], Bool, spec_l19Struck_D n, spec_l19Struck_enc⟩
def spec_Round_D (n : Nat) (r0 : List (A T)) : Option (List SCart × List Int × Bool) := ocons r0 fun a0 r1 => ocons r1 fun a1 r2 => onil r2 (obind (argV (T := T) 71 a0) fun f0 => obind (argV (T := T) 72 a1) fun carts1 => spec_Round n f0 carts1)
def spec_Round_ent (n : Nat) : Ent T := ⟨52, 15, [], List SCart × List Int × Bool, spec_Round_D n, spec_Round_enc⟩
def spec_l9Has_D (n : Nat) (r0 : List (A T)) : Option Bool := ocons r0 fun a0 r1 => ocons r1 fun a1 r2 => onil r2 (obind (argV (T := T) 41 a0) fun list0 => obind (argV (T := T) 3 a1) fun x1 => spec_l9Has n list0 x1)
def spec_l9Has_ent (n : Nat) : Ent T := ⟨138, 16, [], Bool, spec_l9Has_D n, spec_l9Has_enc⟩
def spec_Stuck_D (n : Nat) (r0 : List (A T)) : Option (List Int × Bool) := ocons r0 fun a0 r1 => ocons r1 fun a1 r2 => onil r2 (obind (argV (T := T) 71 a0) fun f0 => obind (argV (T := T) 72 a1) fun carts1 => spec_Stuck n f0 carts1)
def spec_Stuck_ent (n : Nat) : Ent T := ⟨64, 17, [], List Int × Bool, spec_Stuck_D n, spec_Stuck_enc⟩
def impl_in_D (n : Nat) (r0 : List (A T)) : Option Bool := ocons r0 fun a0 r1 => ocons r1 fun a1 r2 => ocons r2 fun a2 r3 => onil r3 (obind (argV (T := T) 3 a0) fun n0 => obind (argV (T := T) 3 a1) fun least1 => obind (argV (T := T) 3 a2) fun most2 => impl_in n n0 least1 most2)
def impl_in_ent (n : Nat) : Ent T := ⟨68, 18, [], Bool, impl_in_D n, impl_in_enc⟩
def impl_all_1_D (n : Nat) (r0 : List (A T)) : Option Bool := ocons r0 fun a0 r1 => ocons r1 fun a1 r2 => ocons r2 fun a2 r3 => onil r3 (obind (argV (T := T) 3 a0) fun n0 => obind (argP (T := T) 3 a1) fun a1 => obind (argP (T := T) 3 a2) fun a2 => impl_all_1 n n0 a1 a2)
def impl_all_1_ent (n : Nat) : Ent T := ⟨163, 19, [], Bool, impl_all_1_D n, impl_all_1_enc⟩
def slices_IndexFunc_int_int__impl_all_1_D (n : Nat) (ar : List (A T)) : Option Int := match ar with
  | [a0, .fn _ [k1_0, k1_1]] => obind (argV (T := T) 41 a0) fun s0 => obind (argP (T := T) 3 k1_0) fun f1c0 => obind (argP (T := T) 3 k1_1) fun f1c1 => slices_IndexFunc_int_int__impl_all_1 n s0 f1c0 f1c1
  | _ => none
def slices_IndexFunc_int_int__impl_all_1_ent (n : Nat) : Ent T := ⟨179, 20, [163], Int, slices_IndexFunc_int_int__impl_all_1_D n, slices_IndexFunc_int_int__impl_all_1_enc⟩
def slices_ContainsFunc_int_int__impl_all_1_D (n : Nat) (ar : List (A T)) : Option Bool := match ar with
  | [a0, .fn _ [k1_0, k1_1]] => obind (argV (T := T) 41 a0) fun s0 => obind (argP (T := T) 3 k1_0) fun f1c0 => obind (argP (T := T) 3 k1_1) fun f1c1 => slices_ContainsFunc_int_int__impl_all_1 n s0 f1c0 f1c1
  | _ => none
def slices_ContainsFunc_int_int__impl_all_1_ent (n : Nat) : Ent T := ⟨162, 21, [163], Bool, slices_ContainsFunc_int_int__impl_all_1_D n, slices_ContainsFunc_int_int__impl_all_1_enc⟩
def impl_all_D (n : Nat) (r0 : List (A T)) : Option Bool := ocons r0 fun a0 r1 => ocons r1 fun a1 r2 => ocons r2 fun a2 r3 => onil r3 (obind (argV (T := T) 41 a0) fun l0 => obind (argV (T := T) 3 a1) fun least1 => obind (argV (T := T) 3 a2) fun most2 => impl_all n l0 least1 most2)
def impl_all_ent (n : Nat) : Ent T := ⟨119, 22, [], Bool, impl_all_D n, impl_all_enc⟩
def impl_FloorOk_D (n : Nat) (r0 : List (A T)) : Option Bool := ocons r0 fun a0 r1 => onil r1 (obind (argV (T := T) 71 a0) fun f0 => impl_FloorOk n f0)
def impl_FloorOk_ent (n : Nat) : Ent T := ⟨43, 23, [], Bool, impl_FloorOk_D n, impl_FloorOk_enc⟩
def impl_Floor_place_D (n : Nat) (r0 : List (A T)) : Option Bool := ocons r0 fun a0 r1 => ocons r1 fun a1 r2 => onil r2 (obind (argV (T := T) 71 a0) fun f0 => obind (argV (T := T) 3 a1) fun p1 => impl_Floor_place n f0 p1)
def impl_Floor_place_ent (n : Nat) : Ent T := ⟨120, 24, [], Bool, impl_Floor_place_D n, impl_Floor_place_enc⟩
def impl_CartsOk_1_D (n : Nat) (r0 : List (A T)) : Option Bool := ocons r0 fun a0 r1 => ocons r1 fun a1 r2 => onil r2 (obind (argV (T := T) 81 a0) fun x0 => obind (argP (T := T) 81 a1) fun a1 => impl_CartsOk_1 n x0 a1)
def impl_CartsOk_1_ent (n : Nat) : Ent T := ⟨122, 25, [], Bool, impl_CartsOk_1_D n, impl_CartsOk_1_enc⟩
def slices_IndexFunc_impl_Cart_impl_Cart__impl_CartsOk_1_D (n : Nat) (ar : List (A T)) : Option Int := match ar with
  | [a0, .fn _ [k1_0]] => obind (argV (T := T) 72 a0) fun s0 => obind (argP (T := T) 81 k1_0) fun f1c0 => slices_IndexFunc_impl_Cart_impl_Cart__impl_CartsOk_1 n s0 f1c0
  | _ => none
def slices_IndexFunc_impl_Cart_impl_Cart__impl_CartsOk_1_ent (n : Nat) : Ent T := ⟨164, 26, [122], Int, slices_IndexFunc_impl_Cart_impl_Cart__impl_CartsOk_1_D n, slices_IndexFunc_impl_Cart_impl_Cart__impl_CartsOk_1_enc⟩
def slices_ContainsFunc_impl_Cart_impl_Cart__impl_CartsOk_1_D (n : Nat) (ar : List (A T)) : Option Bool := match ar with
  | [a0, .fn _ [k1_0]] => obind (argV (T := T) 72 a0) fun s0 => obind (argP (T := T) 81 k1_0) fun f1c0 => slices_ContainsFunc_impl_Cart_impl_Cart__impl_CartsOk_1 n s0 f1c0
  | _ => none
def slices_ContainsFunc_impl_Cart_impl_Cart__impl_CartsOk_1_ent (n : Nat) : Ent T := ⟨121, 27, [122], Bool, slices_ContainsFunc_impl_Cart_impl_Cart__impl_CartsOk_1_D n, slices_ContainsFunc_impl_Cart_impl_Cart__impl_CartsOk_1_enc⟩
def impl_CartsOk_D (n : Nat) (r0 : List (A T)) : Option Bool := ocons r0 fun a0 r1 => ocons r1 fun a1 r2 => onil r2 (obind (argV (T := T) 71 a0) fun f0 => obind (argV (T := T) 72 a1) fun carts1 => impl_CartsOk n f0 carts1)
def impl_CartsOk_ent (n : Nat) : Ent T := ⟨44, 28, [], Bool, impl_CartsOk_D n, impl_CartsOk_enc⟩
def impl_Floor_leads_D (n : Nat) (r0 : List (A T)) : Option (List Int) := ocons r0 fun a0 r1 => ocons r1 fun a1 r2 => onil r2 (obind (argV (T := T) 71 a0) fun f0 => obind (argV (T := T) 3 a1) fun p1 => impl_Floor_leads n f0 p1)
def impl_Floor_leads_ent (n : Nat) : Ent T := ⟨165, 29, [], List Int, impl_Floor_leads_D n, impl_Floor_leads_enc⟩
def impl_Hops_1_D (n : Nat) (r0 : List (A T)) : Option Bool := ocons r0 fun a0 r1 => ocons r1 fun a1 r2 => ocons r2 fun a2 r3 => onil r3 (obind (argV (T := T) 3 a0) fun q0 => obind (argP (T := T) 41 a1) fun a1 => obind (argP (T := T) 3 a2) fun a2 => impl_Hops_1 n q0 a1 a2)
def impl_Hops_1_ent (n : Nat) : Ent T := ⟨166, 30, [], Bool, impl_Hops_1_D n, impl_Hops_1_enc⟩
def slices_IndexFunc_int_int__impl_Hops_1_D (n : Nat) (ar : List (A T)) : Option Int := match ar with
  | [a0, .fn _ [k1_0, k1_1]] => obind (argV (T := T) 41 a0) fun s0 => obind (argP (T := T) 41 k1_0) fun f1c0 => obind (argP (T := T) 3 k1_1) fun f1c1 => slices_IndexFunc_int_int__impl_Hops_1 n s0 f1c0 f1c1
  | _ => none
def slices_IndexFunc_int_int__impl_Hops_1_ent (n : Nat) : Ent T := ⟨179, 31, [166], Int, slices_IndexFunc_int_int__impl_Hops_1_D n, slices_IndexFunc_int_int__impl_Hops_1_enc⟩
def slices_ContainsFunc_int_int__impl_Hops_1_D (n : Nat) (ar : List (A T)) : Option Bool := match ar with
  | [a0, .fn _ [k1_0, k1_1]] => obind (argV (T := T) 41 a0) fun s0 => obind (argP (T := T) 41 k1_0) fun f1c0 => obind (argP (T := T) 3 k1_1) fun f1c1 => slices_ContainsFunc_int_int__impl_Hops_1 n s0 f1c0 f1c1
  | _ => none
def slices_ContainsFunc_int_int__impl_Hops_1_ent (n : Nat) : Ent T := ⟨162, 32, [166], Bool, slices_ContainsFunc_int_int__impl_Hops_1_D n, slices_ContainsFunc_int_int__impl_Hops_1_enc⟩
def impl_Hops_D (n : Nat) (r0 : List (A T)) : Option (List Int × Bool) := ocons r0 fun a0 r1 => ocons r1 fun a1 r2 => onil r2 (obind (argV (T := T) 71 a0) fun f0 => obind (argV (T := T) 3 a1) fun goal1 => impl_Hops n f0 goal1)
def impl_Hops_ent (n : Nat) : Ent T := ⟨126, 33, [], List Int × Bool, impl_Hops_D n, impl_Hops_enc⟩
def impl_Floor_want_D (n : Nat) (r0 : List (A T)) : Option Int := ocons r0 fun a0 r1 => ocons r1 fun a1 r2 => onil r2 (obind (argV (T := T) 71 a0) fun f0 => obind (argV (T := T) 81 a1) fun c1 => impl_Floor_want n f0 c1)
def impl_Floor_want_ent (n : Nat) : Ent T := ⟨123, 34, [], Int, impl_Floor_want_D n, impl_Floor_want_enc⟩
def impl_Round_1_D (n : Nat) (r0 : List (A T)) : Option Bool := ocons r0 fun a0 r1 => ocons r1 fun a1 r2 => ocons r2 fun a2 r3 => onil r3 (obind (argV (T := T) 3 a0) fun i0 => obind (argP (T := T) 41 a1) fun a1 => obind (argP (T := T) 72 a2) fun a2 => impl_Round_1 n i0 a1 a2)
def impl_Round_1_ent (n : Nat) : Ent T := ⟨124, 35, [], Bool, impl_Round_1_D n, impl_Round_1_enc⟩
def impl_own_impl_Cart_D (n : Nat) (r0 : List (A T)) : Option (List SCart) := ocons r0 fun a0 r1 => onil r1 (obind (argV (T := T) 72 a0) fun l0 => impl_own_impl_Cart n l0)
def impl_own_impl_Cart_ent (n : Nat) : Ent T := ⟨125, 36, [], List SCart, impl_own_impl_Cart_D n, impl_own_impl_Cart_enc⟩
def impl_own_int_D (n : Nat) (r0 : List (A T)) : Option (List Int) := ocons r0 fun a0 r1 => onil r1 (obind (argV (T := T) 41 a0) fun l0 => impl_own_int n l0)
def impl_own_int_ent (n : Nat) : Ent T := ⟨99, 37, [], List Int, impl_own_int_D n, impl_own_int_enc⟩
def impl_Round_D (n : Nat) (r0 : List (A T)) : Option (List SCart × List Int × Bool) := ocons r0 fun a0 r1 => ocons r1 fun a1 r2 => onil r2 (obind (argV (T := T) 71 a0) fun f0 => obind (argV (T := T) 72 a1) fun carts1 => impl_Round n f0 carts1)
def impl_Round_ent (n : Nat) : Ent T := ⟨45, 38, [], List SCart × List Int × Bool, impl_Round_D n, impl_Round_enc⟩
def slices_Index_int_int_D (n : Nat) (r0 : List (A T)) : Option Int := ocons r0 fun a0 r1 => ocons r1 fun a1 r2 => onil r2 (obind (argV (T := T) 41 a0) fun s0 => obind (argV (T := T) 3 a1) fun v1 => slices_Index_int_int n s0 v1)
def slices_Index_int_int_ent (n : Nat) : Ent T := ⟨167, 39, [], Int, slices_Index_int_int_D n, slices_Index_int_int_enc⟩
def slices_Contains_int_int_D (n : Nat) (r0 : List (A T)) : Option Bool := ocons r0 fun a0 r1 => ocons r1 fun a1 r2 => onil r2 (obind (argV (T := T) 41 a0) fun s0 => obind (argV (T := T) 3 a1) fun v1 => slices_Contains_int_int n s0 v1)
def slices_Contains_int_int_ent (n : Nat) : Ent T := ⟨127, 40, [], Bool, slices_Contains_int_int_D n, slices_Contains_int_int_enc⟩
def impl_Stuck_D (n : Nat) (r0 : List (A T)) : Option (List Int × Bool) := ocons r0 fun a0 r1 => ocons r1 fun a1 r2 => onil r2 (obind (argV (T := T) 71 a0) fun f0 => obind (argV (T := T) 72 a1) fun carts1 => impl_Stuck n f0 carts1)
def impl_Stuck_ent (n : Nat) : Ent T := ⟨46, 41, [], List Int × Bool, impl_Stuck_D n, impl_Stuck_enc⟩
def laws_eqIntS_D (n : Nat) (r0 : List (A T)) : Option Bool := ocons r0 fun a0 r1 => ocons r1 fun a1 r2 => onil r2 (obind (argV (T := T) 41 a0) fun a0 => obind (argV (T := T) 41 a1) fun b1 => laws_eqIntS n a0 b1)
def laws_eqIntS_ent (n : Nat) : Ent T := ⟨56, 42, [], Bool, laws_eqIntS_D n, laws_eqIntS_enc⟩
def laws_eqFloor_D (n : Nat) (r0 : List (A T)) : Option Bool := ocons r0 fun a0 r1 => ocons r1 fun a1 r2 => onil r2 (obind (argV (T := T) 71 a0) fun a0 => obind (argV (T := T) 71 a1) fun b1 => laws_eqFloor n a0 b1)
def laws_eqFloor_ent (n : Nat) : Ent T := ⟨57, 43, [], Bool, laws_eqFloor_D n, laws_eqFloor_enc⟩
def laws_eqCart_D (n : Nat) (r0 : List (A T)) : Option Bool := ocons r0 fun a0 r1 => ocons r1 fun a1 r2 => onil r2 (obind (argV (T := T) 81 a0) fun a0 => obind (argV (T := T) 81 a1) fun b1 => laws_eqCart n a0 b1)
def laws_eqCart_ent (n : Nat) : Ent T := ⟨137, 44, [], Bool, laws_eqCart_D n, laws_eqCart_enc⟩
def laws_eqCartS_D (n : Nat) (r0 : List (A T)) : Option Bool := ocons r0 fun a0 r1 => ocons r1 fun a1 r2 => onil r2 (obind (argV (T := T) 72 a0) fun a0 => obind (argV (T := T) 72 a1) fun b1 => laws_eqCartS n a0 b1)
def laws_eqCartS_ent (n : Nat) : Ent T := ⟨55, 45, [], Bool, laws_eqCartS_D n, laws_eqCartS_enc⟩
def laws_markIntS_D (n : Nat) (r0 : List (A T)) : Option (Int × List Int) := ocons r0 fun a0 r1 => ocons r1 fun a1 r2 => onil r2 (obind (argV (T := T) 41 a0) fun a0 => obind (argV (T := T) 3 a1) fun k1 => laws_markIntS n a0 k1)
def laws_markIntS_ent (n : Nat) : Ent T := ⟨60, 46, [], Int × List Int, laws_markIntS_D n, laws_markIntS_enc⟩
def laws_markFloor_D (n : Nat) (r0 : List (A T)) : Option (Int × List Int) := ocons r0 fun a0 r1 => ocons r1 fun a1 r2 => onil r2 (obind (argV (T := T) 71 a0) fun a0 => obind (argV (T := T) 3 a1) fun k1 => laws_markFloor n a0 k1)
def laws_markFloor_ent (n : Nat) : Ent T := ⟨58, 47, [], Int × List Int, laws_markFloor_D n, laws_markFloor_enc⟩
def laws_markCartS_D (n : Nat) (r0 : List (A T)) : Option (Int × List SCart) := ocons r0 fun a0 r1 => ocons r1 fun a1 r2 => onil r2 (obind (argV (T := T) 72 a0) fun a0 => obind (argV (T := T) 3 a1) fun k1 => laws_markCartS n a0 k1)
def laws_markCartS_ent (n : Nat) : Ent T := ⟨59, 48, [], Int × List SCart, laws_markCartS_D n, laws_markCartS_enc⟩
def laws_heldIntS_D (n : Nat) (r0 : List (A T)) : Option Int := ocons r0 fun a0 r1 => ocons r1 fun a1 r2 => onil r2 (obind (argV (T := T) 41 a0) fun a0 => obind (argV (T := T) 3 a1) fun k1 => laws_heldIntS n a0 k1)
def laws_heldIntS_ent (n : Nat) : Ent T := ⟨62, 49, [], Int, laws_heldIntS_D n, laws_heldIntS_enc⟩
def laws_FnExactStuck_D (n : Nat) (r0 : List (A T)) : Option Bool := ocons r0 fun a0 r1 => ocons r1 fun a1 r2 => onil r2 (obind (argV (T := T) 86 a0) fun aF0 => obind (argV (T := T) 87 a1) fun aCarts1 => laws_FnExactStuck n aF0 aCarts1)
def laws_FnExactStuck_ent (n : Nat) : Ent T := ⟨11, 50, [], Bool, laws_FnExactStuck_D n, laws_FnExactStuck_enc⟩
def ents (n : Nat) : List (Ent T) := [laws_szIntS_ent n, laws_szFloor_ent n, laws_szCartS_ent n, laws_toIntS_ent n, laws_toFloor_ent n, laws_toCart_ent n, laws_toCartS_ent n, spec_l1In_ent n, spec_l3All_ent n, spec_FloorOk_ent n, spec_CartsOk_ent n, spec_l19Next_ent n, spec_Hops_ent n, spec_l19Want_ent n, spec_l19Struck_ent n, spec_Round_ent n, spec_l9Has_ent n, spec_Stuck_ent n, impl_in_ent n, impl_all_1_ent n, slices_IndexFunc_int_int__impl_all_1_ent n, slices_ContainsFunc_int_int__impl_all_1_ent n, impl_all_ent n, impl_FloorOk_ent n, impl_Floor_place_ent n, impl_CartsOk_1_ent n, slices_IndexFunc_impl_Cart_impl_Cart__impl_CartsOk_1_ent n, slices_ContainsFunc_impl_Cart_impl_Cart__impl_CartsOk_1_ent n, impl_CartsOk_ent n, impl_Floor_leads_ent n, impl_Hops_1_ent n, slices_IndexFunc_int_int__impl_Hops_1_ent n, slices_ContainsFunc_int_int__impl_Hops_1_ent n, impl_Hops_ent n, impl_Floor_want_ent n, impl_Round_1_ent n, impl_own_impl_Cart_ent n, impl_own_int_ent n, impl_Round_ent n, slices_Index_int_int_ent n, slices_Contains_int_int_ent n, impl_Stuck_ent n, laws_eqIntS_ent n, laws_eqFloor_ent n, laws_eqCart_ent n, laws_eqCartS_ent n, laws_markIntS_ent n, laws_markFloor_ent n, laws_markCartS_ent n, laws_heldIntS_ent n, laws_FnExactStuck_ent n]
abbrev Phi (n i : Nat) {R : Type} (f : Nat) (ar : List (A T)) (K : Res T → Option R) : Option R := PhiE (ents n) i f ar K
theorem mixed : Try.prog.follows .mixedOrders = true := by kernel_rfl
noncomputable def laws_szIntS_code : Code := match Try.f131.body with | some c => c | none => .skip
def laws_szIntS_ann : Ann := fun id => none
def laws_szIntS_Ls (n : Nat) : Nat → Option (LSpec T) := fun id => none
theorem laws_szIntS_tie (n : Nat) (a0 : List Int) (left1 : Int) : evF (T := T) (Phi n 0) (laws_szIntS_Ls n) laws_szIntS_ann n Try.f131 (sg 131) [vA T 41 a0, vA T 3 left1] laws_szIntS_dec = laws_szIntS n a0 left1 := by kernel_rfl
theorem laws_szIntS_lo (n : Nat) : LoopsOk (T := T) (Phi n 0) (laws_szIntS_Ls n) laws_szIntS_ann n laws_szIntS_code := loopsOk_all (cs := []) (by kernel_rfl) trivial
theorem laws_szIntS_ok (n : Nat) : EntOk Try.prog (ents n) (laws_szIntS_ent n) := by
  intro hs ar y hg h
  replace h : laws_szIntS_D n ar = some y := h
  unfold laws_szIntS_D at h
  replace h := ocons_some h
  obtain ⟨a0, r0, rfl, h⟩ := h
  replace h := ocons_some h
  obtain ⟨a1, r1, rfl, h⟩ := h
  replace h := onil_some h
  obtain ⟨rfl, h⟩ := h
  obtain ⟨a0, qh0, h⟩ := obind_some h
  obtain ⟨left1, qh1, h⟩ := obind_some h
  rw [argV_eq ok qh0, argV_eq ok qh1]
  exact call_of (phiE_nat _ _) hs ok mixed Try.func131 (c := laws_szIntS_code) (by kernel_rfl) (laws_szIntS_lo n) (by kernel_rfl) (by kernel_rfl) (by kernel_rfl) laws_szIntS_de ((laws_szIntS_tie n a0 left1).trans h)
noncomputable def laws_szFloor_code : Code := match Try.f50.body with | some c => c | none => .skip
def laws_szFloor_ann : Ann := fun id => none
def laws_szFloor_Ls (n : Nat) : Nat → Option (LSpec T) := fun id => none
theorem laws_szFloor_tie (n : Nat) (a0 : SFloor) (left1 : Int) : evF (T := T) (Phi n 1) (laws_szFloor_Ls n) laws_szFloor_ann n Try.f50 (sg 50) [vA T 86 a0, vA T 3 left1] laws_szFloor_dec = laws_szFloor n a0 left1 := by kernel_rfl
theorem laws_szFloor_lo (n : Nat) : LoopsOk (T := T) (Phi n 1) (laws_szFloor_Ls n) laws_szFloor_ann n laws_szFloor_code := loopsOk_all (cs := []) (by kernel_rfl) trivial
theorem laws_szFloor_ok (n : Nat) : EntOk Try.prog (ents n) (laws_szFloor_ent n) := by
  intro hs ar y hg h
  replace h : laws_szFloor_D n ar = some y := h
  unfold laws_szFloor_D at h
  replace h := ocons_some h
  obtain ⟨a0, r0, rfl, h⟩ := h
  replace h := ocons_some h
  obtain ⟨a1, r1, rfl, h⟩ := h
  replace h := onil_some h
  obtain ⟨rfl, h⟩ := h
  obtain ⟨a0, qh0, h⟩ := obind_some h
  obtain ⟨left1, qh1, h⟩ := obind_some h
  rw [argV_eq ok qh0, argV_eq ok qh1]
  exact call_of (phiE_nat _ _) hs ok mixed Try.func50 (c := laws_szFloor_code) (by kernel_rfl) (laws_szFloor_lo n) (by kernel_rfl) (by kernel_rfl) (by kernel_rfl) laws_szFloor_de ((laws_szFloor_tie n a0 left1).trans h)
noncomputable def laws_szCartS_code : Code := match Try.f51.body with | some c => c | none => .skip
def laws_szCartS_ann : Ann := fun id => none
def laws_szCartS_Ls (n : Nat) : Nat → Option (LSpec T) := fun id => none
theorem laws_szCartS_tie (n : Nat) (a0 : List SCart) (left1 : Int) : evF (T := T) (Phi n 2) (laws_szCartS_Ls n) laws_szCartS_ann n Try.f51 (sg 51) [vA T 87 a0, vA T 3 left1] laws_szCartS_dec = laws_szCartS n a0 left1 := by kernel_rfl
theorem laws_szCartS_lo (n : Nat) : LoopsOk (T := T) (Phi n 2) (laws_szCartS_Ls n) laws_szCartS_ann n laws_szCartS_code := loopsOk_all (cs := []) (by kernel_rfl) trivial
theorem laws_szCartS_ok (n : Nat) : EntOk Try.prog (ents n) (laws_szCartS_ent n) := by
  intro hs ar y hg h
  replace h : laws_szCartS_D n ar = some y := h
  unfold laws_szCartS_D at h
  replace h := ocons_some h
  obtain ⟨a0, r0, rfl, h⟩ := h
  replace h := ocons_some h
  obtain ⟨a1, r1, rfl, h⟩ := h
  replace h := onil_some h
  obtain ⟨rfl, h⟩ := h
  obtain ⟨a0, qh0, h⟩ := obind_some h
  obtain ⟨left1, qh1, h⟩ := obind_some h
  rw [argV_eq ok qh0, argV_eq ok qh1]
  exact call_of (phiE_nat _ _) hs ok mixed Try.func51 (c := laws_szCartS_code) (by kernel_rfl) (laws_szCartS_lo n) (by kernel_rfl) (by kernel_rfl) (by kernel_rfl) laws_szCartS_de ((laws_szCartS_tie n a0 left1).trans h)
noncomputable def laws_toIntS_code : Code := match Try.f135.body with | some c => c | none => .skip
def laws_toIntS_3_sv : List Sv := [.one (.arr 3), .one (.own 3000000 3 false), .one (.int .i64)]
def laws_toIntS_3_so : List So := [.arr 3 false]
def laws_toIntS_3_emb (c : List Int) (x : Int × List Int) : EVs T laws_toIntS_3_sv × EOs T laws_toIntS_3_so := ((c, (), x.1, ()), (x.2, ()))
def laws_toIntS_3_prj (y : EVs T laws_toIntS_3_sv × EOs T laws_toIntS_3_so) : List Int × (Int × List Int) := ((y.1.1), (y.1.2.2.1, y.2.1))
def laws_toIntS_3_b (n : Nat) {R : Type} (K : Ex → Sm.St T → Option R) (c : List Int) (x : Int × List Int) (J : (Int × List Int) → Option R) : Option R :=
  laws_toIntS_L3 n (fun (y0 : List Int) => K (.exit 0) (stOf (T := T) [3] [3000000] [.one (.own 3000000 3 false)] [.arr 3 false] ((), ()) (y0, ()))) (fun z0 z1 => J (z0, z1)) c x.1 x.2
def laws_toIntS_3_sp (n : Nat) : LSpec T := mkSpec T ⟨[((.reg 3), 3000000, 3)], [0, 3, 4], [3000000]⟩ laws_toIntS_3_sv laws_toIntS_3_so (List Int) (Int × List Int) laws_toIntS_3_emb laws_toIntS_3_prj (laws_toIntS_3_b n)
noncomputable def laws_toIntS_3_c : Code := ((loopCodes laws_toIntS_code)[0]?).getD .skip
def laws_toIntS_ann : Ann := fun id => bif Nat.beq id 3000003 then some ⟨[((.reg 3), 3000000, 3)], [3], [3000000]⟩ else none
def laws_toIntS_Ls (n : Nat) : Nat → Option (LSpec T) := fun id => bif Nat.beq id 3 then some (laws_toIntS_3_sp n) else none
theorem laws_toIntS_3_le (n : Nat) : LoopEq (T := T) (Phi n 3) (laws_toIntS_Ls n) laws_toIntS_ann n laws_toIntS_3_c (laws_toIntS_3_sp n) := ⟨mkSpec_dec (fun y => rfl), fun c x => by kernel_rfl, fun K J c x => by kernel_rfl⟩
theorem laws_toIntS_tie (n : Nat) (a0 : List Int) : evF (T := T) (Phi n 3) (laws_toIntS_Ls n) laws_toIntS_ann n Try.f135 (sg 135) [vA T 41 a0] laws_toIntS_dec = laws_toIntS n a0 := by kernel_rfl
theorem laws_toIntS_lo (n : Nat) : LoopsOk (T := T) (Phi n 3) (laws_toIntS_Ls n) laws_toIntS_ann n laws_toIntS_code := loopsOk_all (cs := [laws_toIntS_3_c]) (by kernel_rfl) ⟨⟨_, by kernel_rfl, laws_toIntS_3_le n⟩, trivial⟩
theorem laws_toIntS_ok (n : Nat) : EntOk Try.prog (ents n) (laws_toIntS_ent n) := by
  intro hs ar y hg h
  replace h : laws_toIntS_D n ar = some y := h
  unfold laws_toIntS_D at h
  replace h := ocons_some h
  obtain ⟨a0, r0, rfl, h⟩ := h
  replace h := onil_some h
  obtain ⟨rfl, h⟩ := h
  obtain ⟨a0, qh0, h⟩ := obind_some h
  rw [argV_eq ok qh0]
  exact call_of (phiE_nat _ _) hs ok mixed Try.func135 (c := laws_toIntS_code) (by kernel_rfl) (laws_toIntS_lo n) (by kernel_rfl) (by kernel_rfl) (by kernel_rfl) laws_toIntS_de ((laws_toIntS_tie n a0).trans h)
noncomputable def laws_toFloor_code : Code := match Try.f53.body with | some c => c | none => .skip
def laws_toFloor_ann : Ann := fun id => none
def laws_toFloor_Ls (n : Nat) : Nat → Option (LSpec T) := fun id => none
theorem laws_toFloor_tie (n : Nat) (a0 : SFloor) : evF (T := T) (Phi n 4) (laws_toFloor_Ls n) laws_toFloor_ann n Try.f53 (sg 53) [vA T 86 a0] laws_toFloor_dec = laws_toFloor n a0 := by kernel_rfl
theorem laws_toFloor_lo (n : Nat) : LoopsOk (T := T) (Phi n 4) (laws_toFloor_Ls n) laws_toFloor_ann n laws_toFloor_code := loopsOk_all (cs := []) (by kernel_rfl) trivial
theorem laws_toFloor_ok (n : Nat) : EntOk Try.prog (ents n) (laws_toFloor_ent n) := by
  intro hs ar y hg h
  replace h : laws_toFloor_D n ar = some y := h
  unfold laws_toFloor_D at h
  replace h := ocons_some h
  obtain ⟨a0, r0, rfl, h⟩ := h
  replace h := onil_some h
  obtain ⟨rfl, h⟩ := h
  obtain ⟨a0, qh0, h⟩ := obind_some h
  rw [argV_eq ok qh0]
  exact call_of (phiE_nat _ _) hs ok mixed Try.func53 (c := laws_toFloor_code) (by kernel_rfl) (laws_toFloor_lo n) (by kernel_rfl) (by kernel_rfl) (by kernel_rfl) laws_toFloor_de ((laws_toFloor_tie n a0).trans h)
noncomputable def laws_toCart_code : Code := match Try.f136.body with | some c => c | none => .skip
def laws_toCart_ann : Ann := fun id => none
def laws_toCart_Ls (n : Nat) : Nat → Option (LSpec T) := fun id => none
theorem laws_toCart_tie (n : Nat) (a0 : SCart) : evF (T := T) (Phi n 5) (laws_toCart_Ls n) laws_toCart_ann n Try.f136 (sg 136) [vA T 157 a0] laws_toCart_dec = laws_toCart n a0 := by kernel_rfl
theorem laws_toCart_lo (n : Nat) : LoopsOk (T := T) (Phi n 5) (laws_toCart_Ls n) laws_toCart_ann n laws_toCart_code := loopsOk_all (cs := []) (by kernel_rfl) trivial
theorem laws_toCart_ok (n : Nat) : EntOk Try.prog (ents n) (laws_toCart_ent n) := by
  intro hs ar y hg h
  replace h : laws_toCart_D n ar = some y := h
  unfold laws_toCart_D at h
  replace h := ocons_some h
  obtain ⟨a0, r0, rfl, h⟩ := h
  replace h := onil_some h
  obtain ⟨rfl, h⟩ := h
  obtain ⟨a0, qh0, h⟩ := obind_some h
  rw [argV_eq ok qh0]
  exact call_of (phiE_nat _ _) hs ok mixed Try.func136 (c := laws_toCart_code) (by kernel_rfl) (laws_toCart_lo n) (by kernel_rfl) (by kernel_rfl) (by kernel_rfl) laws_toCart_de ((laws_toCart_tie n a0).trans h)
noncomputable def laws_toCartS_code : Code := match Try.f54.body with | some c => c | none => .skip
def laws_toCartS_3_sv : List Sv := [.one (.arr 157), .one (.own 3000000 81 false), .one (.int .i64)]
def laws_toCartS_3_so : List So := [.arr 81 false]
def laws_toCartS_3_emb (c : List SCart) (x : Int × List SCart) : EVs T laws_toCartS_3_sv × EOs T laws_toCartS_3_so := ((c, (), x.1, ()), (x.2, ()))
def laws_toCartS_3_prj (y : EVs T laws_toCartS_3_sv × EOs T laws_toCartS_3_so) : List SCart × (Int × List SCart) := ((y.1.1), (y.1.2.2.1, y.2.1))
def laws_toCartS_3_b (n : Nat) {R : Type} (K : Ex → Sm.St T → Option R) (c : List SCart) (x : Int × List SCart) (J : (Int × List SCart) → Option R) : Option R :=
  laws_toCartS_L3 n (fun (y0 : List SCart) => K (.exit 0) (stOf (T := T) [3] [3000000] [.one (.own 3000000 81 false)] [.arr 81 false] ((), ()) (y0, ()))) (fun z0 z1 => J (z0, z1)) c x.1 x.2
def laws_toCartS_3_sp (n : Nat) : LSpec T := mkSpec T ⟨[((.reg 3), 3000000, 81)], [0, 3, 4], [3000000]⟩ laws_toCartS_3_sv laws_toCartS_3_so (List SCart) (Int × List SCart) laws_toCartS_3_emb laws_toCartS_3_prj (laws_toCartS_3_b n)
noncomputable def laws_toCartS_3_c : Code := ((loopCodes laws_toCartS_code)[0]?).getD .skip
def laws_toCartS_ann : Ann := fun id => bif Nat.beq id 3000003 then some ⟨[((.reg 3), 3000000, 81)], [3], [3000000]⟩ else none
def laws_toCartS_Ls (n : Nat) : Nat → Option (LSpec T) := fun id => bif Nat.beq id 3 then some (laws_toCartS_3_sp n) else none
theorem laws_toCartS_3_le (n : Nat) : LoopEq (T := T) (Phi n 6) (laws_toCartS_Ls n) laws_toCartS_ann n laws_toCartS_3_c (laws_toCartS_3_sp n) := ⟨mkSpec_dec (fun y => rfl), fun c x => by kernel_rfl, fun K J c x => by kernel_rfl⟩
theorem laws_toCartS_tie (n : Nat) (a0 : List SCart) : evF (T := T) (Phi n 6) (laws_toCartS_Ls n) laws_toCartS_ann n Try.f54 (sg 54) [vA T 87 a0] laws_toCartS_dec = laws_toCartS n a0 := by kernel_rfl
theorem laws_toCartS_lo (n : Nat) : LoopsOk (T := T) (Phi n 6) (laws_toCartS_Ls n) laws_toCartS_ann n laws_toCartS_code := loopsOk_all (cs := [laws_toCartS_3_c]) (by kernel_rfl) ⟨⟨_, by kernel_rfl, laws_toCartS_3_le n⟩, trivial⟩
theorem laws_toCartS_ok (n : Nat) : EntOk Try.prog (ents n) (laws_toCartS_ent n) := by
  intro hs ar y hg h
  replace h : laws_toCartS_D n ar = some y := h
  unfold laws_toCartS_D at h
  replace h := ocons_some h
  obtain ⟨a0, r0, rfl, h⟩ := h
  replace h := onil_some h
  obtain ⟨rfl, h⟩ := h
  obtain ⟨a0, qh0, h⟩ := obind_some h
  rw [argV_eq ok qh0]
  exact call_of (phiE_nat _ _) hs ok mixed Try.func54 (c := laws_toCartS_code) (by kernel_rfl) (laws_toCartS_lo n) (by kernel_rfl) (by kernel_rfl) (by kernel_rfl) laws_toCartS_de ((laws_toCartS_tie n a0).trans h)
noncomputable def spec_l1In_code : Code := match Try.f71.body with | some c => c | none => .skip
def spec_l1In_ann : Ann := fun id => none
def spec_l1In_Ls (n : Nat) : Nat → Option (LSpec T) := fun id => none
theorem spec_l1In_tie (n : Nat) (x0 : Int) (a1 : Int) (b2 : Int) : evF (T := T) (Phi n 7) (spec_l1In_Ls n) spec_l1In_ann n Try.f71 (sg 71) [vA T 3 x0, vA T 3 a1, vA T 3 b2] spec_l1In_dec = spec_l1In n x0 a1 b2 := by kernel_rfl
theorem spec_l1In_lo (n : Nat) : LoopsOk (T := T) (Phi n 7) (spec_l1In_Ls n) spec_l1In_ann n spec_l1In_code := loopsOk_all (cs := []) (by kernel_rfl) trivial
theorem spec_l1In_ok (n : Nat) : EntOk Try.prog (ents n) (spec_l1In_ent n) := by
  intro hs ar y hg h
  replace h : spec_l1In_D n ar = some y := h
  unfold spec_l1In_D at h
  replace h := ocons_some h
  obtain ⟨a0, r0, rfl, h⟩ := h
  replace h := ocons_some h
  obtain ⟨a1, r1, rfl, h⟩ := h
  replace h := ocons_some h
  obtain ⟨a2, r2, rfl, h⟩ := h
  replace h := onil_some h
  obtain ⟨rfl, h⟩ := h
  obtain ⟨x0, qh0, h⟩ := obind_some h
  obtain ⟨a1, qh1, h⟩ := obind_some h
  obtain ⟨b2, qh2, h⟩ := obind_some h
  rw [argV_eq ok qh0, argV_eq ok qh1, argV_eq ok qh2]
  exact call_of (phiE_nat _ _) hs ok mixed Try.func71 (c := spec_l1In_code) (by kernel_rfl) (spec_l1In_lo n) (by kernel_rfl) (by kernel_rfl) (by kernel_rfl) spec_l1In_de ((spec_l1In_tie n x0 a1 b2).trans h)
noncomputable def spec_l3All_code : Code := match Try.f168.body with | some c => c | none => .skip
def spec_l3All_2_sv : List Sv := [.one (.arr 3), .one (.int .i64), .one (.int .i64), .one (.int .i64)]
def spec_l3All_2_so : List So := []
def spec_l3All_2_emb (c : List Int × Int × Int) (x : Int) : EVs T spec_l3All_2_sv × EOs T spec_l3All_2_so := ((c.1, c.2.1, c.2.2, x, ()), ())
def spec_l3All_2_prj (y : EVs T spec_l3All_2_sv × EOs T spec_l3All_2_so) : (List Int × Int × Int) × Int := ((y.1.1, y.1.2.1, y.1.2.2.1), (y.1.2.2.2.1))
def spec_l3All_2_b (n : Nat) {R : Type} (K : Ex → Sm.St T → Option R) (c : List Int × Int × Int) (x : Int) (J : Int → Option R) : Option R :=
  spec_l3All_L2 n (K (.exit 0) (stOf (T := T) [] [] [] [] () ())) (fun (y0 : Bool) => K .ret (stOf (T := T) [6] [] [.one (.bool)] [] (y0, ()) ())) J c.1 c.2.1 c.2.2 x
def spec_l3All_2_sp (n : Nat) : LSpec T := mkSpec T ⟨[], [0, 1, 2, 7], []⟩ spec_l3All_2_sv spec_l3All_2_so (List Int × Int × Int) (Int) spec_l3All_2_emb spec_l3All_2_prj (spec_l3All_2_b n)
noncomputable def spec_l3All_2_c : Code := ((loopCodes spec_l3All_code)[0]?).getD .skip
def spec_l3All_ann : Ann := fun id => bif Nat.beq id 3000002 then some ⟨[], [], []⟩ else bif Nat.beq id 2000002 then some ⟨[], [6], []⟩ else none
def spec_l3All_Ls (n : Nat) : Nat → Option (LSpec T) := fun id => bif Nat.beq id 2 then some (spec_l3All_2_sp n) else none
theorem spec_l3All_2_le (n : Nat) : LoopEq (T := T) (Phi n 8) (spec_l3All_Ls n) spec_l3All_ann n spec_l3All_2_c (spec_l3All_2_sp n) := ⟨mkSpec_dec (fun y => rfl), fun c x => by kernel_rfl, fun K J c x => by kernel_rfl⟩
theorem spec_l3All_tie (n : Nat) (list0 : List Int) (a1 : Int) (b2 : Int) : evF (T := T) (Phi n 8) (spec_l3All_Ls n) spec_l3All_ann n Try.f168 (sg 168) [vA T 41 list0, vA T 3 a1, vA T 3 b2] spec_l3All_dec = spec_l3All n list0 a1 b2 := by kernel_rfl
theorem spec_l3All_lo (n : Nat) : LoopsOk (T := T) (Phi n 8) (spec_l3All_Ls n) spec_l3All_ann n spec_l3All_code := loopsOk_all (cs := [spec_l3All_2_c]) (by kernel_rfl) ⟨⟨_, by kernel_rfl, spec_l3All_2_le n⟩, trivial⟩
theorem spec_l3All_ok (n : Nat) : EntOk Try.prog (ents n) (spec_l3All_ent n) := by
  intro hs ar y hg h
  replace h : spec_l3All_D n ar = some y := h
  unfold spec_l3All_D at h
  replace h := ocons_some h
  obtain ⟨a0, r0, rfl, h⟩ := h
  replace h := ocons_some h
  obtain ⟨a1, r1, rfl, h⟩ := h
  replace h := ocons_some h
  obtain ⟨a2, r2, rfl, h⟩ := h
  replace h := onil_some h
  obtain ⟨rfl, h⟩ := h
  obtain ⟨list0, qh0, h⟩ := obind_some h
  obtain ⟨a1, qh1, h⟩ := obind_some h
  obtain ⟨b2, qh2, h⟩ := obind_some h
  rw [argV_eq ok qh0, argV_eq ok qh1, argV_eq ok qh2]
  exact call_of (phiE_nat _ _) hs ok mixed Try.func168 (c := spec_l3All_code) (by kernel_rfl) (spec_l3All_lo n) (by kernel_rfl) (by kernel_rfl) (by kernel_rfl) spec_l3All_de ((spec_l3All_tie n list0 a1 b2).trans h)
noncomputable def spec_FloorOk_code : Code := match Try.f128.body with | some c => c | none => .skip
def spec_FloorOk_ann : Ann := fun id => none
def spec_FloorOk_Ls (n : Nat) : Nat → Option (LSpec T) := fun id => none
theorem spec_FloorOk_tie (n : Nat) (f0 : SFloor) : evF (T := T) (Phi n 9) (spec_FloorOk_Ls n) spec_FloorOk_ann n Try.f128 (sg 128) [vA T 71 f0] spec_FloorOk_dec = spec_FloorOk n f0 := by kernel_rfl
theorem spec_FloorOk_lo (n : Nat) : LoopsOk (T := T) (Phi n 9) (spec_FloorOk_Ls n) spec_FloorOk_ann n spec_FloorOk_code := loopsOk_all (cs := []) (by kernel_rfl) trivial
theorem spec_FloorOk_ok (n : Nat) : EntOk Try.prog (ents n) (spec_FloorOk_ent n) := by
  intro hs ar y hg h
  replace h : spec_FloorOk_D n ar = some y := h
  unfold spec_FloorOk_D at h
  replace h := ocons_some h
  obtain ⟨a0, r0, rfl, h⟩ := h
  replace h := onil_some h
  obtain ⟨rfl, h⟩ := h
  obtain ⟨f0, qh0, h⟩ := obind_some h
  rw [argV_eq ok qh0]
  exact call_of (phiE_nat _ _) hs ok mixed Try.func128 (c := spec_FloorOk_code) (by kernel_rfl) (spec_FloorOk_lo n) (by kernel_rfl) (by kernel_rfl) (by kernel_rfl) spec_FloorOk_de ((spec_FloorOk_tie n f0).trans h)
noncomputable def spec_CartsOk_code : Code := match Try.f132.body with | some c => c | none => .skip
def spec_CartsOk_4_sv : List Sv := [.one (.arr 81), .one (.ptr 16 0 0), .one (.int .i64)]
def spec_CartsOk_4_so : List So := [.var [.int .i64, .int .i64, .arr 3]]
def spec_CartsOk_4_emb (c : List SCart × SFloor) (x : Int) : EVs T spec_CartsOk_4_sv × EOs T spec_CartsOk_4_so := ((c.1, (), x, ()), ((c.2.Wide, c.2.High, c.2.Ways, ()), ()))
def spec_CartsOk_4_prj (y : EVs T spec_CartsOk_4_sv × EOs T spec_CartsOk_4_so) : (List SCart × SFloor) × Int := ((y.1.1, ((⟨y.2.1.1, y.2.1.2.1, y.2.1.2.2.1⟩ : SFloor) : SFloor)), (y.1.2.2.1))
def spec_CartsOk_4_b (n : Nat) {R : Type} (K : Ex → Sm.St T → Option R) (c : List SCart × SFloor) (x : Int) (J : Int → Option R) : Option R :=
  spec_CartsOk_L4 n (K (.exit 0) (stOf (T := T) [] [] [] [] () ())) (fun (y0 : Bool) => K .ret (stOf (T := T) [4] [] [.one (.bool)] [] (y0, ()) ())) J c.1 x c.2
def spec_CartsOk_4_sp (n : Nat) : LSpec T := mkSpec T ⟨[], [1, 2, 5], [16]⟩ spec_CartsOk_4_sv spec_CartsOk_4_so (List SCart × SFloor) (Int) spec_CartsOk_4_emb spec_CartsOk_4_prj (spec_CartsOk_4_b n)
noncomputable def spec_CartsOk_4_c : Code := ((loopCodes spec_CartsOk_code)[0]?).getD .skip
def spec_CartsOk_9_sv : List Sv := [.one (.arr 81), .one (.ptr 16 0 0), .one (.int .i64), .one (.int .i64)]
def spec_CartsOk_9_so : List So := [.var [.int .i64, .int .i64, .arr 3]]
def spec_CartsOk_9_emb (c : List SCart × Int × SFloor) (x : Int) : EVs T spec_CartsOk_9_sv × EOs T spec_CartsOk_9_so := ((c.1, (), c.2.1, x, ()), ((c.2.2.Wide, c.2.2.High, c.2.2.Ways, ()), ()))
def spec_CartsOk_9_prj (y : EVs T spec_CartsOk_9_sv × EOs T spec_CartsOk_9_so) : (List SCart × Int × SFloor) × Int := ((y.1.1, y.1.2.2.1, ((⟨y.2.1.1, y.2.1.2.1, y.2.1.2.2.1⟩ : SFloor) : SFloor)), (y.1.2.2.2.1))
def spec_CartsOk_9_b (n : Nat) {R : Type} (K : Ex → Sm.St T → Option R) (c : List SCart × Int × SFloor) (x : Int) (J : Int → Option R) : Option R :=
  spec_CartsOk_L9 n (K (.exit 2) (stOf (T := T) [1, 2, 5] [16] [.one (.arr 81), .one (.ptr 16 0 0), .one (.int .i64)] [.var [.int .i64, .int .i64, .arr 3]] (c.1, (), c.2.1, ()) ((c.2.2.Wide, c.2.2.High, c.2.2.Ways, ()), ()))) (fun (y0 : Bool) => K .ret (stOf (T := T) [4] [] [.one (.bool)] [] (y0, ()) ())) J c.1 c.2.1 x c.2.2
def spec_CartsOk_9_sp (n : Nat) : LSpec T := mkSpec T ⟨[], [1, 2, 5, 6], [16]⟩ spec_CartsOk_9_sv spec_CartsOk_9_so (List SCart × Int × SFloor) (Int) spec_CartsOk_9_emb spec_CartsOk_9_prj (spec_CartsOk_9_b n)
noncomputable def spec_CartsOk_9_c : Code := ((loopCodes spec_CartsOk_code)[1]?).getD .skip
def spec_CartsOk_ann : Ann := fun id => bif Nat.beq id 3000004 then some ⟨[], [], []⟩ else bif Nat.beq id 2000004 then some ⟨[], [4], []⟩ else bif Nat.beq id 5000009 then some ⟨[], [1, 2, 5], [16]⟩ else bif Nat.beq id 2000009 then some ⟨[], [4], []⟩ else none
def spec_CartsOk_Ls (n : Nat) : Nat → Option (LSpec T) := fun id => bif Nat.beq id 4 then some (spec_CartsOk_4_sp n) else bif Nat.beq id 9 then some (spec_CartsOk_9_sp n) else none
theorem spec_CartsOk_4_le (n : Nat) : LoopEq (T := T) (Phi n 10) (spec_CartsOk_Ls n) spec_CartsOk_ann n spec_CartsOk_4_c (spec_CartsOk_4_sp n) := ⟨mkSpec_dec (fun y => rfl), fun c x => by kernel_rfl, fun K J c x => by kernel_rfl⟩
theorem spec_CartsOk_9_le (n : Nat) : LoopEq (T := T) (Phi n 10) (spec_CartsOk_Ls n) spec_CartsOk_ann n spec_CartsOk_9_c (spec_CartsOk_9_sp n) := ⟨mkSpec_dec (fun y => rfl), fun c x => by kernel_rfl, fun K J c x => by kernel_rfl⟩
theorem spec_CartsOk_tie (n : Nat) (f0 : SFloor) (carts1 : List SCart) : evF (T := T) (Phi n 10) (spec_CartsOk_Ls n) spec_CartsOk_ann n Try.f132 (sg 132) [vA T 71 f0, vA T 72 carts1] spec_CartsOk_dec = spec_CartsOk n f0 carts1 := by kernel_rfl
theorem spec_CartsOk_lo (n : Nat) : LoopsOk (T := T) (Phi n 10) (spec_CartsOk_Ls n) spec_CartsOk_ann n spec_CartsOk_code := loopsOk_all (cs := [spec_CartsOk_4_c, spec_CartsOk_9_c]) (by kernel_rfl) ⟨⟨_, by kernel_rfl, spec_CartsOk_4_le n⟩, ⟨_, by kernel_rfl, spec_CartsOk_9_le n⟩, trivial⟩
theorem spec_CartsOk_ok (n : Nat) : EntOk Try.prog (ents n) (spec_CartsOk_ent n) := by
  intro hs ar y hg h
  replace h : spec_CartsOk_D n ar = some y := h
  unfold spec_CartsOk_D at h
  replace h := ocons_some h
  obtain ⟨a0, r0, rfl, h⟩ := h
  replace h := ocons_some h
  obtain ⟨a1, r1, rfl, h⟩ := h
  replace h := onil_some h
  obtain ⟨rfl, h⟩ := h
  obtain ⟨f0, qh0, h⟩ := obind_some h
  obtain ⟨carts1, qh1, h⟩ := obind_some h
  rw [argV_eq ok qh0, argV_eq ok qh1]
  exact call_of (phiE_nat _ _) hs ok mixed Try.func132 (c := spec_CartsOk_code) (by kernel_rfl) (spec_CartsOk_lo n) (by kernel_rfl) (by kernel_rfl) (by kernel_rfl) spec_CartsOk_de ((spec_CartsOk_tie n f0 carts1).trans h)
noncomputable def spec_l19Next_code : Code := match Try.f129.body with | some c => c | none => .skip
def spec_l19Next_ann : Ann := fun id => none
def spec_l19Next_Ls (n : Nat) : Nat → Option (LSpec T) := fun id => none
theorem spec_l19Next_tie (n : Nat) (f0 : SFloor) (p1 : Int) (bit2 : Int) : evF (T := T) (Phi n 11) (spec_l19Next_Ls n) spec_l19Next_ann n Try.f129 (sg 129) [vA T 71 f0, vA T 3 p1, vA T 3 bit2] spec_l19Next_dec = spec_l19Next n f0 p1 bit2 := by kernel_rfl
theorem spec_l19Next_lo (n : Nat) : LoopsOk (T := T) (Phi n 11) (spec_l19Next_Ls n) spec_l19Next_ann n spec_l19Next_code := loopsOk_all (cs := []) (by kernel_rfl) trivial
theorem spec_l19Next_ok (n : Nat) : EntOk Try.prog (ents n) (spec_l19Next_ent n) := by
  intro hs ar y hg h
  replace h : spec_l19Next_D n ar = some y := h
  unfold spec_l19Next_D at h
  replace h := ocons_some h
  obtain ⟨a0, r0, rfl, h⟩ := h
  replace h := ocons_some h
  obtain ⟨a1, r1, rfl, h⟩ := h
  replace h := ocons_some h
  obtain ⟨a2, r2, rfl, h⟩ := h
  replace h := onil_some h
  obtain ⟨rfl, h⟩ := h
  obtain ⟨f0, qh0, h⟩ := obind_some h
  obtain ⟨p1, qh1, h⟩ := obind_some h
  obtain ⟨bit2, qh2, h⟩ := obind_some h
  rw [argV_eq ok qh0, argV_eq ok qh1, argV_eq ok qh2]
  exact call_of (phiE_nat _ _) hs ok mixed Try.func129 (c := spec_l19Next_code) (by kernel_rfl) (spec_l19Next_lo n) (by kernel_rfl) (by kernel_rfl) (by kernel_rfl) spec_l19Next_de ((spec_l19Next_tie n f0 p1 bit2).trans h)
noncomputable def spec_Hops_code : Code := match Try.f48.body with | some c => c | none => .skip
def spec_Hops_5_sv : List Sv := [.one (.int .i64), .one (.ptr 16 0 0), .one (.own 3000000 3 false), .one (.int .i64)]
def spec_Hops_5_so : List So := [.var [.int .i64, .int .i64, .arr 3], .arr 3 false]
def spec_Hops_5_emb (c : Int × SFloor) (x : Int × List Int) : EVs T spec_Hops_5_sv × EOs T spec_Hops_5_so := ((c.1, (), (), x.1, ()), ((c.2.Wide, c.2.High, c.2.Ways, ()), x.2, ()))
def spec_Hops_5_prj (y : EVs T spec_Hops_5_sv × EOs T spec_Hops_5_so) : (Int × SFloor) × (Int × List Int) := ((y.1.1, ((⟨y.2.1.1, y.2.1.2.1, y.2.1.2.2.1⟩ : SFloor) : SFloor)), (y.1.2.2.2.1, y.2.2.1))
def spec_Hops_5_b (n : Nat) {R : Type} (K : Ex → Sm.St T → Option R) (c : Int × SFloor) (x : Int × List Int) (J : (Int × List Int) → Option R) : Option R :=
  spec_Hops_L5 n (fun (y2 : List Int) => K (.exit 0) (stOf (T := T) [1, 2, 6] [16, 3000000] [.one (.int .i64), .one (.ptr 16 0 0), .one (.own 3000000 3 false)] [.var [.int .i64, .int .i64, .arr 3], .arr 3 false] (c.1, (), (), ()) ((c.2.Wide, c.2.High, c.2.Ways, ()), y2, ()))) (fun z0 z1 => J (z0, z1)) c.1 x.1 c.2 x.2
def spec_Hops_5_sp (n : Nat) : LSpec T := mkSpec T ⟨[((.reg 6), 3000000, 3)], [1, 2, 6, 7], [16, 3000000]⟩ spec_Hops_5_sv spec_Hops_5_so (Int × SFloor) (Int × List Int) spec_Hops_5_emb spec_Hops_5_prj (spec_Hops_5_b n)
noncomputable def spec_Hops_5_c : Code := ((loopCodes spec_Hops_code)[0]?).getD .skip
def spec_Hops_10_sv : List Sv := [.one (.ptr 16 0 0), .one (.own 3000000 3 false), .one (.int .i64)]
def spec_Hops_10_so : List So := [.var [.int .i64, .int .i64, .arr 3], .arr 3 false]
def spec_Hops_10_emb (c : SFloor) (x : Int × List Int) : EVs T spec_Hops_10_sv × EOs T spec_Hops_10_so := (((), (), x.1, ()), ((c.Wide, c.High, c.Ways, ()), x.2, ()))
def spec_Hops_10_prj (y : EVs T spec_Hops_10_sv × EOs T spec_Hops_10_so) : SFloor × (Int × List Int) := ((((⟨y.2.1.1, y.2.1.2.1, y.2.1.2.2.1⟩ : SFloor) : SFloor)), (y.1.2.2.1, y.2.2.1))
def spec_Hops_10_b (n : Nat) {R : Type} (K : Ex → Sm.St T → Option R) (c : SFloor) (x : Int × List Int) (J : (Int × List Int) → Option R) : Option R :=
  spec_Hops_L10 n (fun (y0 : List Int) => K (.exit 2) (stOf (T := T) [6] [3000000] [.one (.own 3000000 3 false)] [.arr 3 false] ((), ()) (y0, ()))) (fun z0 z1 => J (z0, z1)) x.1 c x.2
def spec_Hops_10_sp (n : Nat) : LSpec T := mkSpec T ⟨[((.reg 6), 3000000, 3)], [2, 6, 8], [16, 3000000]⟩ spec_Hops_10_sv spec_Hops_10_so (SFloor) (Int × List Int) spec_Hops_10_emb spec_Hops_10_prj (spec_Hops_10_b n)
noncomputable def spec_Hops_10_c : Code := ((loopCodes spec_Hops_code)[1]?).getD .skip
def spec_Hops_13_sv : List Sv := [.one (.ptr 16 0 0), .one (.own 3000000 3 false), .one (.int .i64), .one (.int .i64)]
def spec_Hops_13_so : List So := [.var [.int .i64, .int .i64, .arr 3], .arr 3 false]
def spec_Hops_13_emb (c : Int × SFloor) (x : Int × List Int) : EVs T spec_Hops_13_sv × EOs T spec_Hops_13_so := (((), (), c.1, x.1, ()), ((c.2.Wide, c.2.High, c.2.Ways, ()), x.2, ()))
def spec_Hops_13_prj (y : EVs T spec_Hops_13_sv × EOs T spec_Hops_13_so) : (Int × SFloor) × (Int × List Int) := ((y.1.2.2.1, ((⟨y.2.1.1, y.2.1.2.1, y.2.1.2.2.1⟩ : SFloor) : SFloor)), (y.1.2.2.2.1, y.2.2.1))
def spec_Hops_13_b (n : Nat) {R : Type} (K : Ex → Sm.St T → Option R) (c : Int × SFloor) (x : Int × List Int) (J : (Int × List Int) → Option R) : Option R :=
  spec_Hops_L13 n (fun (y2 : List Int) => K (.exit 4) (stOf (T := T) [2, 6, 8] [16, 3000000] [.one (.ptr 16 0 0), .one (.own 3000000 3 false), .one (.int .i64)] [.var [.int .i64, .int .i64, .arr 3], .arr 3 false] ((), (), c.1, ()) ((c.2.Wide, c.2.High, c.2.Ways, ()), y2, ()))) (fun z0 z1 => J (z0, z1)) c.1 x.1 c.2 x.2
def spec_Hops_13_sp (n : Nat) : LSpec T := mkSpec T ⟨[((.reg 6), 3000000, 3)], [2, 6, 8, 9], [16, 3000000]⟩ spec_Hops_13_sv spec_Hops_13_so (Int × SFloor) (Int × List Int) spec_Hops_13_emb spec_Hops_13_prj (spec_Hops_13_b n)
noncomputable def spec_Hops_13_c : Code := ((loopCodes spec_Hops_code)[2]?).getD .skip
def spec_Hops_16_sv : List Sv := [.one (.ptr 16 0 0), .one (.own 3000000 3 false), .one (.int .i64), .one (.int .i64), .one (.int .i64)]
def spec_Hops_16_so : List So := [.var [.int .i64, .int .i64, .arr 3], .arr 3 false]
def spec_Hops_16_emb (c : Int × Int × SFloor) (x : Int × List Int) : EVs T spec_Hops_16_sv × EOs T spec_Hops_16_so := (((), (), c.1, c.2.1, x.1, ()), ((c.2.2.Wide, c.2.2.High, c.2.2.Ways, ()), x.2, ()))
def spec_Hops_16_prj (y : EVs T spec_Hops_16_sv × EOs T spec_Hops_16_so) : (Int × Int × SFloor) × (Int × List Int) := ((y.1.2.2.1, y.1.2.2.2.1, ((⟨y.2.1.1, y.2.1.2.1, y.2.1.2.2.1⟩ : SFloor) : SFloor)), (y.1.2.2.2.2.1, y.2.2.1))
def spec_Hops_16_b (n : Nat) {R : Type} (K : Ex → Sm.St T → Option R) (c : Int × Int × SFloor) (x : Int × List Int) (J : (Int × List Int) → Option R) : Option R :=
  spec_Hops_L16 n (fun (y3 : List Int) => K (.exit 6) (stOf (T := T) [2, 6, 8, 9] [16, 3000000] [.one (.ptr 16 0 0), .one (.own 3000000 3 false), .one (.int .i64), .one (.int .i64)] [.var [.int .i64, .int .i64, .arr 3], .arr 3 false] ((), (), c.1, c.2.1, ()) ((c.2.2.Wide, c.2.2.High, c.2.2.Ways, ()), y3, ()))) (fun z0 z1 => J (z0, z1)) c.1 c.2.1 x.1 c.2.2 x.2
def spec_Hops_16_sp (n : Nat) : LSpec T := mkSpec T ⟨[((.reg 6), 3000000, 3)], [2, 6, 8, 9, 10], [16, 3000000]⟩ spec_Hops_16_sv spec_Hops_16_so (Int × Int × SFloor) (Int × List Int) spec_Hops_16_emb spec_Hops_16_prj (spec_Hops_16_b n)
noncomputable def spec_Hops_16_c : Code := ((loopCodes spec_Hops_code)[3]?).getD .skip
def spec_Hops_ann : Ann := fun id => bif Nat.beq id 3000005 then some ⟨[((.reg 6), 3000000, 3)], [1, 2, 6], [16, 3000000]⟩ else bif Nat.beq id 5000010 then some ⟨[((.reg 6), 3000000, 3)], [6], [3000000]⟩ else bif Nat.beq id 7000013 then some ⟨[((.reg 6), 3000000, 3)], [2, 6, 8], [16, 3000000]⟩ else bif Nat.beq id 9000016 then some ⟨[((.reg 6), 3000000, 3)], [2, 6, 8, 9], [16, 3000000]⟩ else none
def spec_Hops_Ls (n : Nat) : Nat → Option (LSpec T) := fun id => bif Nat.beq id 5 then some (spec_Hops_5_sp n) else bif Nat.beq id 10 then some (spec_Hops_10_sp n) else bif Nat.beq id 13 then some (spec_Hops_13_sp n) else bif Nat.beq id 16 then some (spec_Hops_16_sp n) else none
theorem spec_Hops_5_le (n : Nat) : LoopEq (T := T) (Phi n 12) (spec_Hops_Ls n) spec_Hops_ann n spec_Hops_5_c (spec_Hops_5_sp n) := ⟨mkSpec_dec (fun y => rfl), fun c x => by kernel_rfl, fun K J c x => by kernel_rfl⟩
theorem spec_Hops_10_le (n : Nat) : LoopEq (T := T) (Phi n 12) (spec_Hops_Ls n) spec_Hops_ann n spec_Hops_10_c (spec_Hops_10_sp n) := ⟨mkSpec_dec (fun y => rfl), fun c x => by kernel_rfl, fun K J c x => by kernel_rfl⟩
theorem spec_Hops_13_le (n : Nat) : LoopEq (T := T) (Phi n 12) (spec_Hops_Ls n) spec_Hops_ann n spec_Hops_13_c (spec_Hops_13_sp n) := ⟨mkSpec_dec (fun y => rfl), fun c x => by kernel_rfl, fun K J c x => by kernel_rfl⟩
theorem spec_Hops_16_le (n : Nat) : LoopEq (T := T) (Phi n 12) (spec_Hops_Ls n) spec_Hops_ann n spec_Hops_16_c (spec_Hops_16_sp n) := ⟨mkSpec_dec (fun y => rfl), fun c x => by kernel_rfl, fun K J c x => by kernel_rfl⟩
theorem spec_Hops_tie (n : Nat) (f0 : SFloor) (goal1 : Int) : evF (T := T) (Phi n 12) (spec_Hops_Ls n) spec_Hops_ann n Try.f48 (sg 48) [vA T 71 f0, vA T 3 goal1] spec_Hops_dec = spec_Hops n f0 goal1 := by kernel_rfl
theorem spec_Hops_lo (n : Nat) : LoopsOk (T := T) (Phi n 12) (spec_Hops_Ls n) spec_Hops_ann n spec_Hops_code := loopsOk_all (cs := [spec_Hops_5_c, spec_Hops_10_c, spec_Hops_13_c, spec_Hops_16_c]) (by kernel_rfl) ⟨⟨_, by kernel_rfl, spec_Hops_5_le n⟩, ⟨_, by kernel_rfl, spec_Hops_10_le n⟩, ⟨_, by kernel_rfl, spec_Hops_13_le n⟩, ⟨_, by kernel_rfl, spec_Hops_16_le n⟩, trivial⟩
theorem spec_Hops_ok (n : Nat) : EntOk Try.prog (ents n) (spec_Hops_ent n) := by
  intro hs ar y hg h
  replace h : spec_Hops_D n ar = some y := h
  unfold spec_Hops_D at h
  replace h := ocons_some h
  obtain ⟨a0, r0, rfl, h⟩ := h
  replace h := ocons_some h
  obtain ⟨a1, r1, rfl, h⟩ := h
  replace h := onil_some h
  obtain ⟨rfl, h⟩ := h
  obtain ⟨f0, qh0, h⟩ := obind_some h
  obtain ⟨goal1, qh1, h⟩ := obind_some h
  rw [argV_eq ok qh0, argV_eq ok qh1]
  exact call_of (phiE_nat _ _) hs ok mixed Try.func48 (c := spec_Hops_code) (by kernel_rfl) (spec_Hops_lo n) (by kernel_rfl) (by kernel_rfl) (by kernel_rfl) spec_Hops_de ((spec_Hops_tie n f0 goal1).trans h)
noncomputable def spec_l19Want_code : Code := match Try.f133.body with | some c => c | none => .skip
def spec_l19Want_5_sv : List Sv := [.one (.ptr 16 0 0), .one (.ptr 24 0 0), .one (.own 3000000 3 false), .one (.int .i64)]
def spec_l19Want_5_so : List So := [.var [.int .i64, .int .i64, .arr 3], .var [.int .i64, .int .i64], .arr 3 false]
def spec_l19Want_5_emb (c : SFloor × SCart × List Int) (x : Int) : EVs T spec_l19Want_5_sv × EOs T spec_l19Want_5_so := (((), (), (), x, ()), ((c.1.Wide, c.1.High, c.1.Ways, ()), (c.2.1.At, c.2.1.Goal, ()), c.2.2, ()))
def spec_l19Want_5_prj (y : EVs T spec_l19Want_5_sv × EOs T spec_l19Want_5_so) : (SFloor × SCart × List Int) × Int := ((((⟨y.2.1.1, y.2.1.2.1, y.2.1.2.2.1⟩ : SFloor) : SFloor), ((⟨y.2.2.1.1, y.2.2.1.2.1⟩ : SCart) : SCart), y.2.2.2.1), (y.1.2.2.2.1))
def spec_l19Want_5_b (n : Nat) {R : Type} (K : Ex → Sm.St T → Option R) (c : SFloor × SCart × List Int) (x : Int) (J : Int → Option R) : Option R :=
  spec_l19Want_L5 n (K (.exit 0) (stOf (T := T) [] [] [] [] () ())) (fun (y0 : Int) => K .ret (stOf (T := T) [4] [] [.one (.int .i64)] [] (y0, ()) ())) J x c.1 c.2.1 c.2.2
def spec_l19Want_5_sp (n : Nat) : LSpec T := mkSpec T ⟨[((.reg 5), 3000000, 3)], [2, 3, 5, 7], [16, 24, 3000000]⟩ spec_l19Want_5_sv spec_l19Want_5_so (SFloor × SCart × List Int) (Int) spec_l19Want_5_emb spec_l19Want_5_prj (spec_l19Want_5_b n)
noncomputable def spec_l19Want_5_c : Code := ((loopCodes spec_l19Want_code)[0]?).getD .skip
def spec_l19Want_ann : Ann := fun id => bif Nat.beq id 3000005 then some ⟨[], [], []⟩ else bif Nat.beq id 2000005 then some ⟨[], [4], []⟩ else none
def spec_l19Want_Ls (n : Nat) : Nat → Option (LSpec T) := fun id => bif Nat.beq id 5 then some (spec_l19Want_5_sp n) else none
theorem spec_l19Want_5_le (n : Nat) : LoopEq (T := T) (Phi n 13) (spec_l19Want_Ls n) spec_l19Want_ann n spec_l19Want_5_c (spec_l19Want_5_sp n) := ⟨mkSpec_dec (fun y => rfl), fun c x => by kernel_rfl, fun K J c x => by kernel_rfl⟩
theorem spec_l19Want_tie (n : Nat) (f0 : SFloor) (c1 : SCart) : evF (T := T) (Phi n 13) (spec_l19Want_Ls n) spec_l19Want_ann n Try.f133 (sg 133) [vA T 71 f0, vA T 81 c1] spec_l19Want_dec = spec_l19Want n f0 c1 := by kernel_rfl
theorem spec_l19Want_lo (n : Nat) : LoopsOk (T := T) (Phi n 13) (spec_l19Want_Ls n) spec_l19Want_ann n spec_l19Want_code := loopsOk_all (cs := [spec_l19Want_5_c]) (by kernel_rfl) ⟨⟨_, by kernel_rfl, spec_l19Want_5_le n⟩, trivial⟩
theorem spec_l19Want_ok (n : Nat) : EntOk Try.prog (ents n) (spec_l19Want_ent n) := by
  intro hs ar y hg h
  replace h : spec_l19Want_D n ar = some y := h
  unfold spec_l19Want_D at h
  replace h := ocons_some h
  obtain ⟨a0, r0, rfl, h⟩ := h
  replace h := ocons_some h
  obtain ⟨a1, r1, rfl, h⟩ := h
  replace h := onil_some h
  obtain ⟨rfl, h⟩ := h
  obtain ⟨f0, qh0, h⟩ := obind_some h
  obtain ⟨c1, qh1, h⟩ := obind_some h
  rw [argV_eq ok qh0, argV_eq ok qh1]
  exact call_of (phiE_nat _ _) hs ok mixed Try.func133 (c := spec_l19Want_code) (by kernel_rfl) (spec_l19Want_lo n) (by kernel_rfl) (by kernel_rfl) (by kernel_rfl) spec_l19Want_de ((spec_l19Want_tie n f0 c1).trans h)
noncomputable def spec_l19Struck_code : Code := match Try.f134.body with | some c => c | none => .skip
def spec_l19Struck_4_sv : List Sv := [.one (.arr 81), .one (.arr 3), .one (.int .i64), .one (.int .i64)]
def spec_l19Struck_4_so : List So := []
def spec_l19Struck_4_emb (c : List SCart × List Int × Int) (x : Int) : EVs T spec_l19Struck_4_sv × EOs T spec_l19Struck_4_so := ((c.1, c.2.1, c.2.2, x, ()), ())
def spec_l19Struck_4_prj (y : EVs T spec_l19Struck_4_sv × EOs T spec_l19Struck_4_so) : (List SCart × List Int × Int) × Int := ((y.1.1, y.1.2.1, y.1.2.2.1), (y.1.2.2.2.1))
def spec_l19Struck_4_b (n : Nat) {R : Type} (K : Ex → Sm.St T → Option R) (c : List SCart × List Int × Int) (x : Int) (J : Int → Option R) : Option R :=
  spec_l19Struck_L4 n (K (.exit 0) (stOf (T := T) [] [] [] [] () ())) (fun (y0 : Bool) => K .ret (stOf (T := T) [6] [] [.one (.bool)] [] (y0, ()) ())) J c.1 c.2.1 c.2.2 x
def spec_l19Struck_4_sp (n : Nat) : LSpec T := mkSpec T ⟨[], [0, 1, 2, 7], []⟩ spec_l19Struck_4_sv spec_l19Struck_4_so (List SCart × List Int × Int) (Int) spec_l19Struck_4_emb spec_l19Struck_4_prj (spec_l19Struck_4_b n)
noncomputable def spec_l19Struck_4_c : Code := ((loopCodes spec_l19Struck_code)[0]?).getD .skip
def spec_l19Struck_ann : Ann := fun id => bif Nat.beq id 3000004 then some ⟨[], [], []⟩ else bif Nat.beq id 2000004 then some ⟨[], [6], []⟩ else none
def spec_l19Struck_Ls (n : Nat) : Nat → Option (LSpec T) := fun id => bif Nat.beq id 4 then some (spec_l19Struck_4_sp n) else none
theorem spec_l19Struck_4_le (n : Nat) : LoopEq (T := T) (Phi n 14) (spec_l19Struck_Ls n) spec_l19Struck_ann n spec_l19Struck_4_c (spec_l19Struck_4_sp n) := ⟨mkSpec_dec (fun y => rfl), fun c x => by kernel_rfl, fun K J c x => by kernel_rfl⟩
theorem spec_l19Struck_tie (n : Nat) (carts0 : List SCart) (wants1 : List Int) (i2 : Int) : evF (T := T) (Phi n 14) (spec_l19Struck_Ls n) spec_l19Struck_ann n Try.f134 (sg 134) [vA T 72 carts0, vA T 41 wants1, vA T 3 i2] spec_l19Struck_dec = spec_l19Struck n carts0 wants1 i2 := by kernel_rfl
theorem spec_l19Struck_lo (n : Nat) : LoopsOk (T := T) (Phi n 14) (spec_l19Struck_Ls n) spec_l19Struck_ann n spec_l19Struck_code := loopsOk_all (cs := [spec_l19Struck_4_c]) (by kernel_rfl) ⟨⟨_, by kernel_rfl, spec_l19Struck_4_le n⟩, trivial⟩
theorem spec_l19Struck_ok (n : Nat) : EntOk Try.prog (ents n) (spec_l19Struck_ent n) := by
  intro hs ar y hg h
  replace h : spec_l19Struck_D n ar = some y := h
  unfold spec_l19Struck_D at h
  replace h := ocons_some h
  obtain ⟨a0, r0, rfl, h⟩ := h
  replace h := ocons_some h
  obtain ⟨a1, r1, rfl, h⟩ := h
  replace h := ocons_some h
  obtain ⟨a2, r2, rfl, h⟩ := h
  replace h := onil_some h
  obtain ⟨rfl, h⟩ := h
  obtain ⟨carts0, qh0, h⟩ := obind_some h
  obtain ⟨wants1, qh1, h⟩ := obind_some h
  obtain ⟨i2, qh2, h⟩ := obind_some h
  rw [argV_eq ok qh0, argV_eq ok qh1, argV_eq ok qh2]
  exact call_of (phiE_nat _ _) hs ok mixed Try.func134 (c := spec_l19Struck_code) (by kernel_rfl) (spec_l19Struck_lo n) (by kernel_rfl) (by kernel_rfl) (by kernel_rfl) spec_l19Struck_de ((spec_l19Struck_tie n carts0 wants1 i2).trans h)
noncomputable def spec_Round_code : Code := match Try.f52.body with | some c => c | none => .skip
def spec_Round_5_sv : List Sv := [.one (.arr 81), .one (.ptr 16 0 0), .one (.own 3000000 3 false), .one (.int .i64)]
def spec_Round_5_so : List So := [.var [.int .i64, .int .i64, .arr 3], .arr 3 false]
def spec_Round_5_emb (c : List SCart × SFloor) (x : Int × List Int) : EVs T spec_Round_5_sv × EOs T spec_Round_5_so := ((c.1, (), (), x.1, ()), ((c.2.Wide, c.2.High, c.2.Ways, ()), x.2, ()))
def spec_Round_5_prj (y : EVs T spec_Round_5_sv × EOs T spec_Round_5_so) : (List SCart × SFloor) × (Int × List Int) := ((y.1.1, ((⟨y.2.1.1, y.2.1.2.1, y.2.1.2.2.1⟩ : SFloor) : SFloor)), (y.1.2.2.2.1, y.2.2.1))
def spec_Round_5_b (n : Nat) {R : Type} (K : Ex → Sm.St T → Option R) (c : List SCart × SFloor) (x : Int × List Int) (J : (Int × List Int) → Option R) : Option R :=
  spec_Round_L5 n (fun (y1 : List Int) => K (.exit 0) (stOf (T := T) [1, 7] [3000000] [.one (.arr 81), .one (.own 3000000 3 false)] [.arr 3 false] (c.1, (), ()) (y1, ()))) (fun z0 z1 => J (z0, z1)) c.1 x.1 c.2 x.2
def spec_Round_5_sp (n : Nat) : LSpec T := mkSpec T ⟨[((.reg 7), 3000000, 3)], [1, 2, 7, 8], [16, 3000000]⟩ spec_Round_5_sv spec_Round_5_so (List SCart × SFloor) (Int × List Int) spec_Round_5_emb spec_Round_5_prj (spec_Round_5_b n)
noncomputable def spec_Round_5_c : Code := ((loopCodes spec_Round_code)[0]?).getD .skip
def spec_Round_9_sv : List Sv := [.one (.arr 81), .one (.own 3000000 3 false), .one (.bool)]
def spec_Round_9_so : List So := [.arr 3 false]
def spec_Round_9_emb (c : List SCart) (x : Bool × List Int) : EVs T spec_Round_9_sv × EOs T spec_Round_9_so := ((c, (), x.1, ()), (x.2, ()))
def spec_Round_9_prj (y : EVs T spec_Round_9_sv × EOs T spec_Round_9_so) : List SCart × (Bool × List Int) := ((y.1.1), (y.1.2.2.1, y.2.1))
def spec_Round_9_b (n : Nat) {R : Type} (K : Ex → Sm.St T → Option R) (c : List SCart) (x : Bool × List Int) (J : (Bool × List Int) → Option R) : Option R :=
  spec_Round_L9 n (fun (y1 : List Int) => K (.exit 2) (stOf (T := T) [1, 7] [3000000] [.one (.arr 81), .one (.own 3000000 3 false)] [.arr 3 false] (c, (), ()) (y1, ()))) (fun z0 z1 => J (z0, z1)) c x.1 x.2
def spec_Round_9_sp (n : Nat) : LSpec T := mkSpec T ⟨[((.reg 7), 3000000, 3)], [1, 7, 9], [3000000]⟩ spec_Round_9_sv spec_Round_9_so (List SCart) (Bool × List Int) spec_Round_9_emb spec_Round_9_prj (spec_Round_9_b n)
noncomputable def spec_Round_9_c : Code := ((loopCodes spec_Round_code)[1]?).getD .skip
def spec_Round_12_sv : List Sv := [.one (.arr 81), .one (.own 3000000 3 false), .one (.bool), .one (.int .i64)]
def spec_Round_12_so : List So := [.arr 3 false]
def spec_Round_12_emb (c : List SCart) (x : Bool × Int × List Int) : EVs T spec_Round_12_sv × EOs T spec_Round_12_so := ((c, (), x.1, x.2.1, ()), (x.2.2, ()))
def spec_Round_12_prj (y : EVs T spec_Round_12_sv × EOs T spec_Round_12_so) : List SCart × (Bool × Int × List Int) := ((y.1.1), (y.1.2.2.1, y.1.2.2.2.1, y.2.1))
def spec_Round_12_b (n : Nat) {R : Type} (K : Ex → Sm.St T → Option R) (c : List SCart) (x : Bool × Int × List Int) (J : (Bool × Int × List Int) → Option R) : Option R :=
  spec_Round_L12 n (fun (y1 : Bool) (y2 : List Int) => K (.exit 4) (stOf (T := T) [1, 7, 9] [3000000] [.one (.arr 81), .one (.own 3000000 3 false), .one (.bool)] [.arr 3 false] (c, (), y1, ()) (y2, ()))) (fun z0 z1 z2 => J (z0, z1, z2)) c x.1 x.2.1 x.2.2
def spec_Round_12_sp (n : Nat) : LSpec T := mkSpec T ⟨[((.reg 7), 3000000, 3)], [1, 7, 9, 10], [3000000]⟩ spec_Round_12_sv spec_Round_12_so (List SCart) (Bool × Int × List Int) spec_Round_12_emb spec_Round_12_prj (spec_Round_12_b n)
noncomputable def spec_Round_12_c : Code := ((loopCodes spec_Round_code)[2]?).getD .skip
def spec_Round_20_sv : List Sv := [.one (.arr 81), .one (.own 3000000 3 false), .one (.own 3000001 81 false), .one (.own 3000002 3 false), .one (.int .i64)]
def spec_Round_20_so : List So := [.arr 3 false, .arr 81 false, .arr 3 false]
def spec_Round_20_emb (c : List SCart × List Int) (x : Int × List SCart × List Int) : EVs T spec_Round_20_sv × EOs T spec_Round_20_so := ((c.1, (), (), (), x.1, ()), (c.2, x.2.1, x.2.2, ()))
def spec_Round_20_prj (y : EVs T spec_Round_20_sv × EOs T spec_Round_20_so) : (List SCart × List Int) × (Int × List SCart × List Int) := ((y.1.1, y.2.1), (y.1.2.2.2.2.1, y.2.2.1, y.2.2.2.1))
def spec_Round_20_b (n : Nat) {R : Type} (K : Ex → Sm.St T → Option R) (c : List SCart × List Int) (x : Int × List SCart × List Int) (J : (Int × List SCart × List Int) → Option R) : Option R :=
  spec_Round_L20 n (fun (y0 : List SCart) (y1 : List Int) => K (.exit 6) (stOf (T := T) [11, 12] [3000001, 3000002] [.one (.own 3000001 81 false), .one (.own 3000002 3 false)] [.arr 81 false, .arr 3 false] ((), (), ()) (y0, y1, ()))) (fun z0 z1 z2 => J (z0, z1, z2)) c.1 x.1 c.2 x.2.1 x.2.2
def spec_Round_20_sp (n : Nat) : LSpec T := mkSpec T ⟨[((.reg 7), 3000000, 3), ((.reg 11), 3000001, 81), ((.reg 12), 3000002, 3)], [1, 7, 11, 12, 13], [3000000, 3000001, 3000002]⟩ spec_Round_20_sv spec_Round_20_so (List SCart × List Int) (Int × List SCart × List Int) spec_Round_20_emb spec_Round_20_prj (spec_Round_20_b n)
noncomputable def spec_Round_20_c : Code := ((loopCodes spec_Round_code)[3]?).getD .skip
def spec_Round_ann : Ann := fun id => bif Nat.beq id 3000005 then some ⟨[((.reg 7), 3000000, 3)], [1, 7], [3000000]⟩ else bif Nat.beq id 5000009 then some ⟨[((.reg 7), 3000000, 3)], [1, 7], [3000000]⟩ else bif Nat.beq id 7000012 then some ⟨[((.reg 7), 3000000, 3)], [1, 7, 9], [3000000]⟩ else bif Nat.beq id 9000020 then some ⟨[((.reg 11), 3000001, 81), ((.reg 12), 3000002, 3)], [11, 12], [3000001, 3000002]⟩ else none
def spec_Round_Ls (n : Nat) : Nat → Option (LSpec T) := fun id => bif Nat.beq id 5 then some (spec_Round_5_sp n) else bif Nat.beq id 9 then some (spec_Round_9_sp n) else bif Nat.beq id 12 then some (spec_Round_12_sp n) else bif Nat.beq id 20 then some (spec_Round_20_sp n) else none
theorem spec_Round_5_le (n : Nat) : LoopEq (T := T) (Phi n 15) (spec_Round_Ls n) spec_Round_ann n spec_Round_5_c (spec_Round_5_sp n) := ⟨mkSpec_dec (fun y => rfl), fun c x => by kernel_rfl, fun K J c x => by kernel_rfl⟩
theorem spec_Round_9_le (n : Nat) : LoopEq (T := T) (Phi n 15) (spec_Round_Ls n) spec_Round_ann n spec_Round_9_c (spec_Round_9_sp n) := ⟨mkSpec_dec (fun y => rfl), fun c x => by kernel_rfl, fun K J c x => by kernel_rfl⟩
theorem spec_Round_12_le (n : Nat) : LoopEq (T := T) (Phi n 15) (spec_Round_Ls n) spec_Round_ann n spec_Round_12_c (spec_Round_12_sp n) := ⟨mkSpec_dec (fun y => rfl), fun c x => by kernel_rfl, fun K J c x => by kernel_rfl⟩
theorem spec_Round_20_le (n : Nat) : LoopEq (T := T) (Phi n 15) (spec_Round_Ls n) spec_Round_ann n spec_Round_20_c (spec_Round_20_sp n) := ⟨mkSpec_dec (fun y => rfl), fun c x => by kernel_rfl, fun K J c x => by kernel_rfl⟩
theorem spec_Round_tie (n : Nat) (f0 : SFloor) (carts1 : List SCart) : evF (T := T) (Phi n 15) (spec_Round_Ls n) spec_Round_ann n Try.f52 (sg 52) [vA T 71 f0, vA T 72 carts1] spec_Round_dec = spec_Round n f0 carts1 := by kernel_rfl
theorem spec_Round_lo (n : Nat) : LoopsOk (T := T) (Phi n 15) (spec_Round_Ls n) spec_Round_ann n spec_Round_code := loopsOk_all (cs := [spec_Round_5_c, spec_Round_9_c, spec_Round_12_c, spec_Round_20_c]) (by kernel_rfl) ⟨⟨_, by kernel_rfl, spec_Round_5_le n⟩, ⟨_, by kernel_rfl, spec_Round_9_le n⟩, ⟨_, by kernel_rfl, spec_Round_12_le n⟩, ⟨_, by kernel_rfl, spec_Round_20_le n⟩, trivial⟩
theorem spec_Round_ok (n : Nat) : EntOk Try.prog (ents n) (spec_Round_ent n) := by
  intro hs ar y hg h
  replace h : spec_Round_D n ar = some y := h
  unfold spec_Round_D at h
  replace h := ocons_some h
  obtain ⟨a0, r0, rfl, h⟩ := h
  replace h := ocons_some h
  obtain ⟨a1, r1, rfl, h⟩ := h
  replace h := onil_some h
  obtain ⟨rfl, h⟩ := h
  obtain ⟨f0, qh0, h⟩ := obind_some h
  obtain ⟨carts1, qh1, h⟩ := obind_some h
  rw [argV_eq ok qh0, argV_eq ok qh1]
  exact call_of (phiE_nat _ _) hs ok mixed Try.func52 (c := spec_Round_code) (by kernel_rfl) (spec_Round_lo n) (by kernel_rfl) (by kernel_rfl) (by kernel_rfl) spec_Round_de ((spec_Round_tie n f0 carts1).trans h)
noncomputable def spec_l9Has_code : Code := match Try.f138.body with | some c => c | none => .skip
def spec_l9Has_2_sv : List Sv := [.one (.arr 3), .one (.int .i64), .one (.int .i64)]
def spec_l9Has_2_so : List So := []
def spec_l9Has_2_emb (c : List Int × Int) (x : Int) : EVs T spec_l9Has_2_sv × EOs T spec_l9Has_2_so := ((c.1, c.2, x, ()), ())
def spec_l9Has_2_prj (y : EVs T spec_l9Has_2_sv × EOs T spec_l9Has_2_so) : (List Int × Int) × Int := ((y.1.1, y.1.2.1), (y.1.2.2.1))
def spec_l9Has_2_b (n : Nat) {R : Type} (K : Ex → Sm.St T → Option R) (c : List Int × Int) (x : Int) (J : Int → Option R) : Option R :=
  spec_l9Has_L2 n (K (.exit 0) (stOf (T := T) [] [] [] [] () ())) (fun (y0 : Bool) => K .ret (stOf (T := T) [4] [] [.one (.bool)] [] (y0, ()) ())) J c.1 c.2 x
def spec_l9Has_2_sp (n : Nat) : LSpec T := mkSpec T ⟨[], [0, 1, 5], []⟩ spec_l9Has_2_sv spec_l9Has_2_so (List Int × Int) (Int) spec_l9Has_2_emb spec_l9Has_2_prj (spec_l9Has_2_b n)
noncomputable def spec_l9Has_2_c : Code := ((loopCodes spec_l9Has_code)[0]?).getD .skip
def spec_l9Has_ann : Ann := fun id => bif Nat.beq id 3000002 then some ⟨[], [], []⟩ else bif Nat.beq id 2000002 then some ⟨[], [4], []⟩ else none
def spec_l9Has_Ls (n : Nat) : Nat → Option (LSpec T) := fun id => bif Nat.beq id 2 then some (spec_l9Has_2_sp n) else none
theorem spec_l9Has_2_le (n : Nat) : LoopEq (T := T) (Phi n 16) (spec_l9Has_Ls n) spec_l9Has_ann n spec_l9Has_2_c (spec_l9Has_2_sp n) := ⟨mkSpec_dec (fun y => rfl), fun c x => by kernel_rfl, fun K J c x => by kernel_rfl⟩
theorem spec_l9Has_tie (n : Nat) (list0 : List Int) (x1 : Int) : evF (T := T) (Phi n 16) (spec_l9Has_Ls n) spec_l9Has_ann n Try.f138 (sg 138) [vA T 41 list0, vA T 3 x1] spec_l9Has_dec = spec_l9Has n list0 x1 := by kernel_rfl
theorem spec_l9Has_lo (n : Nat) : LoopsOk (T := T) (Phi n 16) (spec_l9Has_Ls n) spec_l9Has_ann n spec_l9Has_code := loopsOk_all (cs := [spec_l9Has_2_c]) (by kernel_rfl) ⟨⟨_, by kernel_rfl, spec_l9Has_2_le n⟩, trivial⟩
theorem spec_l9Has_ok (n : Nat) : EntOk Try.prog (ents n) (spec_l9Has_ent n) := by
  intro hs ar y hg h
  replace h : spec_l9Has_D n ar = some y := h
  unfold spec_l9Has_D at h
  replace h := ocons_some h
  obtain ⟨a0, r0, rfl, h⟩ := h
  replace h := ocons_some h
  obtain ⟨a1, r1, rfl, h⟩ := h
  replace h := onil_some h
  obtain ⟨rfl, h⟩ := h
  obtain ⟨list0, qh0, h⟩ := obind_some h
  obtain ⟨x1, qh1, h⟩ := obind_some h
  rw [argV_eq ok qh0, argV_eq ok qh1]
  exact call_of (phiE_nat _ _) hs ok mixed Try.func138 (c := spec_l9Has_code) (by kernel_rfl) (spec_l9Has_lo n) (by kernel_rfl) (by kernel_rfl) (by kernel_rfl) spec_l9Has_de ((spec_l9Has_tie n list0 x1).trans h)
noncomputable def spec_Stuck_code : Code := match Try.f64.body with | some c => c | none => .skip
def spec_Stuck_4_sv : List Sv := [.one (.arr 81), .one (.ptr 16 0 0), .one (.own 3000000 3 false), .one (.bool), .one (.own 3000001 3 false), .one (.int .i64)]
def spec_Stuck_4_so : List So := [.var [.int .i64, .int .i64, .arr 3], .arr 3 false, .arr 3 false]
def spec_Stuck_4_emb (c : List SCart × Bool × SFloor × List Int) (x : Int × List Int) : EVs T spec_Stuck_4_sv × EOs T spec_Stuck_4_so := ((c.1, (), (), c.2.1, (), x.1, ()), ((c.2.2.1.Wide, c.2.2.1.High, c.2.2.1.Ways, ()), c.2.2.2, x.2, ()))
def spec_Stuck_4_prj (y : EVs T spec_Stuck_4_sv × EOs T spec_Stuck_4_so) : (List SCart × Bool × SFloor × List Int) × (Int × List Int) := ((y.1.1, y.1.2.2.2.1, ((⟨y.2.1.1, y.2.1.2.1, y.2.1.2.2.1⟩ : SFloor) : SFloor), y.2.2.1), (y.1.2.2.2.2.2.1, y.2.2.2.1))
def spec_Stuck_4_b (n : Nat) {R : Type} (K : Ex → Sm.St T → Option R) (c : List SCart × Bool × SFloor × List Int) (x : Int × List Int) (J : (Int × List Int) → Option R) : Option R :=
  spec_Stuck_L4 n (fun (y1 : List Int) => K (.exit 0) (stOf (T := T) [8, 9] [3000001] [.one (.bool), .one (.own 3000001 3 false)] [.arr 3 false] (c.2.1, (), ()) (y1, ()))) (fun z0 z1 => J (z0, z1)) c.1 c.2.1 x.1 c.2.2.1 c.2.2.2 x.2
def spec_Stuck_4_sp (n : Nat) : LSpec T := mkSpec T ⟨[((.reg 7), 3000000, 3), ((.reg 9), 3000001, 3)], [1, 2, 7, 8, 9, 10], [16, 3000000, 3000001]⟩ spec_Stuck_4_sv spec_Stuck_4_so (List SCart × Bool × SFloor × List Int) (Int × List Int) spec_Stuck_4_emb spec_Stuck_4_prj (spec_Stuck_4_b n)
noncomputable def spec_Stuck_4_c : Code := ((loopCodes spec_Stuck_code)[0]?).getD .skip
def spec_Stuck_ann : Ann := fun id => bif Nat.beq id 3000004 then some ⟨[((.reg 9), 3000001, 3)], [8, 9], [3000001]⟩ else none
def spec_Stuck_Ls (n : Nat) : Nat → Option (LSpec T) := fun id => bif Nat.beq id 4 then some (spec_Stuck_4_sp n) else none
theorem spec_Stuck_4_le (n : Nat) : LoopEq (T := T) (Phi n 17) (spec_Stuck_Ls n) spec_Stuck_ann n spec_Stuck_4_c (spec_Stuck_4_sp n) := ⟨mkSpec_dec (fun y => rfl), fun c x => by kernel_rfl, fun K J c x => by kernel_rfl⟩
theorem spec_Stuck_tie (n : Nat) (f0 : SFloor) (carts1 : List SCart) : evF (T := T) (Phi n 17) (spec_Stuck_Ls n) spec_Stuck_ann n Try.f64 (sg 64) [vA T 71 f0, vA T 72 carts1] spec_Stuck_dec = spec_Stuck n f0 carts1 := by kernel_rfl
theorem spec_Stuck_lo (n : Nat) : LoopsOk (T := T) (Phi n 17) (spec_Stuck_Ls n) spec_Stuck_ann n spec_Stuck_code := loopsOk_all (cs := [spec_Stuck_4_c]) (by kernel_rfl) ⟨⟨_, by kernel_rfl, spec_Stuck_4_le n⟩, trivial⟩
theorem spec_Stuck_ok (n : Nat) : EntOk Try.prog (ents n) (spec_Stuck_ent n) := by
  intro hs ar y hg h
  replace h : spec_Stuck_D n ar = some y := h
  unfold spec_Stuck_D at h
  replace h := ocons_some h
  obtain ⟨a0, r0, rfl, h⟩ := h
  replace h := ocons_some h
  obtain ⟨a1, r1, rfl, h⟩ := h
  replace h := onil_some h
  obtain ⟨rfl, h⟩ := h
  obtain ⟨f0, qh0, h⟩ := obind_some h
  obtain ⟨carts1, qh1, h⟩ := obind_some h
  rw [argV_eq ok qh0, argV_eq ok qh1]
  exact call_of (phiE_nat _ _) hs ok mixed Try.func64 (c := spec_Stuck_code) (by kernel_rfl) (spec_Stuck_lo n) (by kernel_rfl) (by kernel_rfl) (by kernel_rfl) spec_Stuck_de ((spec_Stuck_tie n f0 carts1).trans h)
noncomputable def impl_in_code : Code := match Try.f68.body with | some c => c | none => .skip
def impl_in_ann : Ann := fun id => none
def impl_in_Ls (n : Nat) : Nat → Option (LSpec T) := fun id => none
theorem impl_in_tie (n : Nat) (n0 : Int) (least1 : Int) (most2 : Int) : evF (T := T) (Phi n 18) (impl_in_Ls n) impl_in_ann n Try.f68 (sg 68) [vA T 3 n0, vA T 3 least1, vA T 3 most2] impl_in_dec = impl_in n n0 least1 most2 := by kernel_rfl
theorem impl_in_lo (n : Nat) : LoopsOk (T := T) (Phi n 18) (impl_in_Ls n) impl_in_ann n impl_in_code := loopsOk_all (cs := []) (by kernel_rfl) trivial
theorem impl_in_ok (n : Nat) : EntOk Try.prog (ents n) (impl_in_ent n) := by
  intro hs ar y hg h
  replace h : impl_in_D n ar = some y := h
  unfold impl_in_D at h
  replace h := ocons_some h
  obtain ⟨a0, r0, rfl, h⟩ := h
  replace h := ocons_some h
  obtain ⟨a1, r1, rfl, h⟩ := h
  replace h := ocons_some h
  obtain ⟨a2, r2, rfl, h⟩ := h
  replace h := onil_some h
  obtain ⟨rfl, h⟩ := h
  obtain ⟨n0, qh0, h⟩ := obind_some h
  obtain ⟨least1, qh1, h⟩ := obind_some h
  obtain ⟨most2, qh2, h⟩ := obind_some h
  rw [argV_eq ok qh0, argV_eq ok qh1, argV_eq ok qh2]
  exact call_of (phiE_nat _ _) hs ok mixed Try.func68 (c := impl_in_code) (by kernel_rfl) (impl_in_lo n) (by kernel_rfl) (by kernel_rfl) (by kernel_rfl) impl_in_de ((impl_in_tie n n0 least1 most2).trans h)
noncomputable def impl_all_1_code : Code := match Try.f163.body with | some c => c | none => .skip
def impl_all_1_ann : Ann := fun id => none
def impl_all_1_Ls (n : Nat) : Nat → Option (LSpec T) := fun id => none
theorem impl_all_1_tie (n : Nat) (n0 : Int) (a1 : Int) (a2 : Int) : evF (T := T) (Phi n 19) (impl_all_1_Ls n) impl_all_1_ann n Try.f163 (sg 163) [vA T 3 n0, .ptr 3 a1, .ptr 3 a2] impl_all_1_dec = impl_all_1 n n0 a1 a2 := by kernel_rfl
theorem impl_all_1_lo (n : Nat) : LoopsOk (T := T) (Phi n 19) (impl_all_1_Ls n) impl_all_1_ann n impl_all_1_code := loopsOk_all (cs := []) (by kernel_rfl) trivial
theorem impl_all_1_ok (n : Nat) : EntOk Try.prog (ents n) (impl_all_1_ent n) := by
  intro hs ar y hg h
  replace h : impl_all_1_D n ar = some y := h
  unfold impl_all_1_D at h
  replace h := ocons_some h
  obtain ⟨a0, r0, rfl, h⟩ := h
  replace h := ocons_some h
  obtain ⟨a1, r1, rfl, h⟩ := h
  replace h := ocons_some h
  obtain ⟨a2, r2, rfl, h⟩ := h
  replace h := onil_some h
  obtain ⟨rfl, h⟩ := h
  obtain ⟨n0, qh0, h⟩ := obind_some h
  obtain ⟨a1, qh1, h⟩ := obind_some h
  obtain ⟨a2, qh2, h⟩ := obind_some h
  rw [argV_eq ok qh0, argP_eq qh1, argP_eq qh2]
  exact call_of (phiE_nat _ _) hs ok mixed Try.func163 (c := impl_all_1_code) (by kernel_rfl) (impl_all_1_lo n) (by kernel_rfl) (by kernel_rfl) (by kernel_rfl) impl_all_1_de ((impl_all_1_tie n n0 a1 a2).trans h)
noncomputable def slices_IndexFunc_int_int__impl_all_1_code : Code := match Try.f179.body with | some c => c | none => .skip
def slices_IndexFunc_int_int__impl_all_1_2_sv : List Sv := [.one (.arr 3), .one (.fnr 163 [3, 3]), .one (.int .i64), .one (.int .i64)]
def slices_IndexFunc_int_int__impl_all_1_2_so : List So := []
def slices_IndexFunc_int_int__impl_all_1_2_emb (c : List Int × Int × Int × Int) (x : Int) : EVs T slices_IndexFunc_int_int__impl_all_1_2_sv × EOs T slices_IndexFunc_int_int__impl_all_1_2_so := ((c.1, (c.2.1, c.2.2.1, ()), c.2.2.2, x, ()), ())
def slices_IndexFunc_int_int__impl_all_1_2_prj (y : EVs T slices_IndexFunc_int_int__impl_all_1_2_sv × EOs T slices_IndexFunc_int_int__impl_all_1_2_so) : (List Int × Int × Int × Int) × Int := ((y.1.1, y.1.2.1.1, y.1.2.1.2.1, y.1.2.2.1), (y.1.2.2.2.1))
def slices_IndexFunc_int_int__impl_all_1_2_b (n : Nat) {R : Type} (K : Ex → Sm.St T → Option R) (c : List Int × Int × Int × Int) (x : Int) (J : Int → Option R) : Option R :=
  slices_IndexFunc_int_int__impl_all_1_L2 n (K (.exit 0) (stOf (T := T) [] [] [] [] () ())) (fun (y0 : Int) => K .ret (stOf (T := T) [4] [] [.one (.int .i64)] [] (y0, ()) ())) J c.1 c.2.1 c.2.2.1 c.2.2.2 x
def slices_IndexFunc_int_int__impl_all_1_2_sp (n : Nat) : LSpec T := mkSpec T ⟨[], [0, 1, 7, 8], []⟩ slices_IndexFunc_int_int__impl_all_1_2_sv slices_IndexFunc_int_int__impl_all_1_2_so (List Int × Int × Int × Int) (Int) slices_IndexFunc_int_int__impl_all_1_2_emb slices_IndexFunc_int_int__impl_all_1_2_prj (slices_IndexFunc_int_int__impl_all_1_2_b n)
noncomputable def slices_IndexFunc_int_int__impl_all_1_2_c : Code := ((loopCodes slices_IndexFunc_int_int__impl_all_1_code)[0]?).getD .skip
def slices_IndexFunc_int_int__impl_all_1_ann : Ann := fun id => bif Nat.beq id 3000002 then some ⟨[], [], []⟩ else bif Nat.beq id 2000002 then some ⟨[], [4], []⟩ else none
def slices_IndexFunc_int_int__impl_all_1_Ls (n : Nat) : Nat → Option (LSpec T) := fun id => bif Nat.beq id 2 then some (slices_IndexFunc_int_int__impl_all_1_2_sp n) else none
theorem slices_IndexFunc_int_int__impl_all_1_2_le (n : Nat) : LoopEq (T := T) (Phi n 20) (slices_IndexFunc_int_int__impl_all_1_Ls n) slices_IndexFunc_int_int__impl_all_1_ann n slices_IndexFunc_int_int__impl_all_1_2_c (slices_IndexFunc_int_int__impl_all_1_2_sp n) := ⟨mkSpec_dec (fun y => rfl), fun c x => by kernel_rfl, fun K J c x => by kernel_rfl⟩
theorem slices_IndexFunc_int_int__impl_all_1_tie (n : Nat) (s0 : List Int) (f1c0 : Int) (f1c1 : Int) : evF (T := T) (Phi n 20) (slices_IndexFunc_int_int__impl_all_1_Ls n) slices_IndexFunc_int_int__impl_all_1_ann n Try.f179 (sg 179) [vA T 41 s0, .fn 163 [.ptr 3 f1c0, .ptr 3 f1c1]] slices_IndexFunc_int_int__impl_all_1_dec = slices_IndexFunc_int_int__impl_all_1 n s0 f1c0 f1c1 := by kernel_rfl
theorem slices_IndexFunc_int_int__impl_all_1_lo (n : Nat) : LoopsOk (T := T) (Phi n 20) (slices_IndexFunc_int_int__impl_all_1_Ls n) slices_IndexFunc_int_int__impl_all_1_ann n slices_IndexFunc_int_int__impl_all_1_code := loopsOk_all (cs := [slices_IndexFunc_int_int__impl_all_1_2_c]) (by kernel_rfl) ⟨⟨_, by kernel_rfl, slices_IndexFunc_int_int__impl_all_1_2_le n⟩, trivial⟩
theorem slices_IndexFunc_int_int__impl_all_1_ok (n : Nat) : EntOk Try.prog (ents n) (slices_IndexFunc_int_int__impl_all_1_ent n) := by
  intro hs ar y hg h
  replace h : slices_IndexFunc_int_int__impl_all_1_D n ar = some y := h
  unfold slices_IndexFunc_int_int__impl_all_1_D at h
  split at h
  · obtain ⟨s0, qh0, h⟩ := obind_some h
    obtain ⟨f1c0, qh1, h⟩ := obind_some h
    obtain ⟨f1c1, qh2, h⟩ := obind_some h
    rw [argV_eq ok qh0, argP_eq qh1, argP_eq qh2] at hg ⊢
    cases (show [_] = [163] from natsEq_eq hg)
    exact call_of (phiE_nat _ _) hs ok mixed Try.func179 (c := slices_IndexFunc_int_int__impl_all_1_code) (by kernel_rfl) (slices_IndexFunc_int_int__impl_all_1_lo n) (by kernel_rfl) (by kernel_rfl) (by kernel_rfl) slices_IndexFunc_int_int__impl_all_1_de ((slices_IndexFunc_int_int__impl_all_1_tie n s0 f1c0 f1c1).trans h)
  · cases h
noncomputable def slices_ContainsFunc_int_int__impl_all_1_code : Code := match Try.f162.body with | some c => c | none => .skip
def slices_ContainsFunc_int_int__impl_all_1_ann : Ann := fun id => none
def slices_ContainsFunc_int_int__impl_all_1_Ls (n : Nat) : Nat → Option (LSpec T) := fun id => none
theorem slices_ContainsFunc_int_int__impl_all_1_tie (n : Nat) (s0 : List Int) (f1c0 : Int) (f1c1 : Int) : evF (T := T) (Phi n 21) (slices_ContainsFunc_int_int__impl_all_1_Ls n) slices_ContainsFunc_int_int__impl_all_1_ann n Try.f162 (sg 162) [vA T 41 s0, .fn 163 [.ptr 3 f1c0, .ptr 3 f1c1]] slices_ContainsFunc_int_int__impl_all_1_dec = slices_ContainsFunc_int_int__impl_all_1 n s0 f1c0 f1c1 := by kernel_rfl
theorem slices_ContainsFunc_int_int__impl_all_1_lo (n : Nat) : LoopsOk (T := T) (Phi n 21) (slices_ContainsFunc_int_int__impl_all_1_Ls n) slices_ContainsFunc_int_int__impl_all_1_ann n slices_ContainsFunc_int_int__impl_all_1_code := loopsOk_all (cs := []) (by kernel_rfl) trivial
theorem slices_ContainsFunc_int_int__impl_all_1_ok (n : Nat) : EntOk Try.prog (ents n) (slices_ContainsFunc_int_int__impl_all_1_ent n) := by
  intro hs ar y hg h
  replace h : slices_ContainsFunc_int_int__impl_all_1_D n ar = some y := h
  unfold slices_ContainsFunc_int_int__impl_all_1_D at h
  split at h
  · obtain ⟨s0, qh0, h⟩ := obind_some h
    obtain ⟨f1c0, qh1, h⟩ := obind_some h
    obtain ⟨f1c1, qh2, h⟩ := obind_some h
    rw [argV_eq ok qh0, argP_eq qh1, argP_eq qh2] at hg ⊢
    cases (show [_] = [163] from natsEq_eq hg)
    exact call_of (phiE_nat _ _) hs ok mixed Try.func162 (c := slices_ContainsFunc_int_int__impl_all_1_code) (by kernel_rfl) (slices_ContainsFunc_int_int__impl_all_1_lo n) (by kernel_rfl) (by kernel_rfl) (by kernel_rfl) slices_ContainsFunc_int_int__impl_all_1_de ((slices_ContainsFunc_int_int__impl_all_1_tie n s0 f1c0 f1c1).trans h)
  · cases h
noncomputable def impl_all_code : Code := match Try.f119.body with | some c => c | none => .skip
def impl_all_ann : Ann := fun id => none
def impl_all_Ls (n : Nat) : Nat → Option (LSpec T) := fun id => none
theorem impl_all_tie (n : Nat) (l0 : List Int) (least1 : Int) (most2 : Int) : evF (T := T) (Phi n 22) (impl_all_Ls n) impl_all_ann n Try.f119 (sg 119) [vA T 41 l0, vA T 3 least1, vA T 3 most2] impl_all_dec = impl_all n l0 least1 most2 := by kernel_rfl
theorem impl_all_lo (n : Nat) : LoopsOk (T := T) (Phi n 22) (impl_all_Ls n) impl_all_ann n impl_all_code := loopsOk_all (cs := []) (by kernel_rfl) trivial
theorem impl_all_ok (n : Nat) : EntOk Try.prog (ents n) (impl_all_ent n) := by
  intro hs ar y hg h
  replace h : impl_all_D n ar = some y := h
  unfold impl_all_D at h
  replace h := ocons_some h
  obtain ⟨a0, r0, rfl, h⟩ := h
  replace h := ocons_some h
  obtain ⟨a1, r1, rfl, h⟩ := h
  replace h := ocons_some h
  obtain ⟨a2, r2, rfl, h⟩ := h
  replace h := onil_some h
  obtain ⟨rfl, h⟩ := h
  obtain ⟨l0, qh0, h⟩ := obind_some h
  obtain ⟨least1, qh1, h⟩ := obind_some h
  obtain ⟨most2, qh2, h⟩ := obind_some h
  rw [argV_eq ok qh0, argV_eq ok qh1, argV_eq ok qh2]
  exact call_of (phiE_nat _ _) hs ok mixed Try.func119 (c := impl_all_code) (by kernel_rfl) (impl_all_lo n) (by kernel_rfl) (by kernel_rfl) (by kernel_rfl) impl_all_de ((impl_all_tie n l0 least1 most2).trans h)
noncomputable def impl_FloorOk_code : Code := match Try.f43.body with | some c => c | none => .skip
def impl_FloorOk_ann : Ann := fun id => none
def impl_FloorOk_Ls (n : Nat) : Nat → Option (LSpec T) := fun id => none
theorem impl_FloorOk_tie (n : Nat) (f0 : SFloor) : evF (T := T) (Phi n 23) (impl_FloorOk_Ls n) impl_FloorOk_ann n Try.f43 (sg 43) [vA T 71 f0] impl_FloorOk_dec = impl_FloorOk n f0 := by kernel_rfl
theorem impl_FloorOk_lo (n : Nat) : LoopsOk (T := T) (Phi n 23) (impl_FloorOk_Ls n) impl_FloorOk_ann n impl_FloorOk_code := loopsOk_all (cs := []) (by kernel_rfl) trivial
theorem impl_FloorOk_ok (n : Nat) : EntOk Try.prog (ents n) (impl_FloorOk_ent n) := by
  intro hs ar y hg h
  replace h : impl_FloorOk_D n ar = some y := h
  unfold impl_FloorOk_D at h
  replace h := ocons_some h
  obtain ⟨a0, r0, rfl, h⟩ := h
  replace h := onil_some h
  obtain ⟨rfl, h⟩ := h
  obtain ⟨f0, qh0, h⟩ := obind_some h
  rw [argV_eq ok qh0]
  exact call_of (phiE_nat _ _) hs ok mixed Try.func43 (c := impl_FloorOk_code) (by kernel_rfl) (impl_FloorOk_lo n) (by kernel_rfl) (by kernel_rfl) (by kernel_rfl) impl_FloorOk_de ((impl_FloorOk_tie n f0).trans h)
noncomputable def impl_Floor_place_code : Code := match Try.f120.body with | some c => c | none => .skip
def impl_Floor_place_ann : Ann := fun id => none
def impl_Floor_place_Ls (n : Nat) : Nat → Option (LSpec T) := fun id => none
theorem impl_Floor_place_tie (n : Nat) (f0 : SFloor) (p1 : Int) : evF (T := T) (Phi n 24) (impl_Floor_place_Ls n) impl_Floor_place_ann n Try.f120 (sg 120) [vA T 71 f0, vA T 3 p1] impl_Floor_place_dec = impl_Floor_place n f0 p1 := by kernel_rfl
theorem impl_Floor_place_lo (n : Nat) : LoopsOk (T := T) (Phi n 24) (impl_Floor_place_Ls n) impl_Floor_place_ann n impl_Floor_place_code := loopsOk_all (cs := []) (by kernel_rfl) trivial
theorem impl_Floor_place_ok (n : Nat) : EntOk Try.prog (ents n) (impl_Floor_place_ent n) := by
  intro hs ar y hg h
  replace h : impl_Floor_place_D n ar = some y := h
  unfold impl_Floor_place_D at h
  replace h := ocons_some h
  obtain ⟨a0, r0, rfl, h⟩ := h
  replace h := ocons_some h
  obtain ⟨a1, r1, rfl, h⟩ := h
  replace h := onil_some h
  obtain ⟨rfl, h⟩ := h
  obtain ⟨f0, qh0, h⟩ := obind_some h
  obtain ⟨p1, qh1, h⟩ := obind_some h
  rw [argV_eq ok qh0, argV_eq ok qh1]
  exact call_of (phiE_nat _ _) hs ok mixed Try.func120 (c := impl_Floor_place_code) (by kernel_rfl) (impl_Floor_place_lo n) (by kernel_rfl) (by kernel_rfl) (by kernel_rfl) impl_Floor_place_de ((impl_Floor_place_tie n f0 p1).trans h)
noncomputable def impl_CartsOk_1_code : Code := match Try.f122.body with | some c => c | none => .skip
def impl_CartsOk_1_ann : Ann := fun id => none
def impl_CartsOk_1_Ls (n : Nat) : Nat → Option (LSpec T) := fun id => none
theorem impl_CartsOk_1_tie (n : Nat) (x0 : SCart) (a1 : SCart) : evF (T := T) (Phi n 25) (impl_CartsOk_1_Ls n) impl_CartsOk_1_ann n Try.f122 (sg 122) [vA T 81 x0, .ptr 81 a1] impl_CartsOk_1_dec = impl_CartsOk_1 n x0 a1 := by kernel_rfl
theorem impl_CartsOk_1_lo (n : Nat) : LoopsOk (T := T) (Phi n 25) (impl_CartsOk_1_Ls n) impl_CartsOk_1_ann n impl_CartsOk_1_code := loopsOk_all (cs := []) (by kernel_rfl) trivial
theorem impl_CartsOk_1_ok (n : Nat) : EntOk Try.prog (ents n) (impl_CartsOk_1_ent n) := by
  intro hs ar y hg h
  replace h : impl_CartsOk_1_D n ar = some y := h
  unfold impl_CartsOk_1_D at h
  replace h := ocons_some h
  obtain ⟨a0, r0, rfl, h⟩ := h
  replace h := ocons_some h
  obtain ⟨a1, r1, rfl, h⟩ := h
  replace h := onil_some h
  obtain ⟨rfl, h⟩ := h
  obtain ⟨x0, qh0, h⟩ := obind_some h
  obtain ⟨a1, qh1, h⟩ := obind_some h
  rw [argV_eq ok qh0, argP_eq qh1]
  exact call_of (phiE_nat _ _) hs ok mixed Try.func122 (c := impl_CartsOk_1_code) (by kernel_rfl) (impl_CartsOk_1_lo n) (by kernel_rfl) (by kernel_rfl) (by kernel_rfl) impl_CartsOk_1_de ((impl_CartsOk_1_tie n x0 a1).trans h)
noncomputable def slices_IndexFunc_impl_Cart_impl_Cart__impl_CartsOk_1_code : Code := match Try.f164.body with | some c => c | none => .skip
def slices_IndexFunc_impl_Cart_impl_Cart__impl_CartsOk_1_2_sv : List Sv := [.one (.arr 81), .one (.fnr 122 [81]), .one (.int .i64), .one (.int .i64)]
def slices_IndexFunc_impl_Cart_impl_Cart__impl_CartsOk_1_2_so : List So := []
def slices_IndexFunc_impl_Cart_impl_Cart__impl_CartsOk_1_2_emb (c : List SCart × SCart × Int) (x : Int) : EVs T slices_IndexFunc_impl_Cart_impl_Cart__impl_CartsOk_1_2_sv × EOs T slices_IndexFunc_impl_Cart_impl_Cart__impl_CartsOk_1_2_so := ((c.1, (c.2.1, ()), c.2.2, x, ()), ())
def slices_IndexFunc_impl_Cart_impl_Cart__impl_CartsOk_1_2_prj (y : EVs T slices_IndexFunc_impl_Cart_impl_Cart__impl_CartsOk_1_2_sv × EOs T slices_IndexFunc_impl_Cart_impl_Cart__impl_CartsOk_1_2_so) : (List SCart × SCart × Int) × Int := ((y.1.1, y.1.2.1.1, y.1.2.2.1), (y.1.2.2.2.1))
def slices_IndexFunc_impl_Cart_impl_Cart__impl_CartsOk_1_2_b (n : Nat) {R : Type} (K : Ex → Sm.St T → Option R) (c : List SCart × SCart × Int) (x : Int) (J : Int → Option R) : Option R :=
  slices_IndexFunc_impl_Cart_impl_Cart__impl_CartsOk_1_L2 n (K (.exit 0) (stOf (T := T) [] [] [] [] () ())) (fun (y0 : Int) => K .ret (stOf (T := T) [4] [] [.one (.int .i64)] [] (y0, ()) ())) J c.1 c.2.1 c.2.2 x
def slices_IndexFunc_impl_Cart_impl_Cart__impl_CartsOk_1_2_sp (n : Nat) : LSpec T := mkSpec T ⟨[], [0, 1, 7, 8], []⟩ slices_IndexFunc_impl_Cart_impl_Cart__impl_CartsOk_1_2_sv slices_IndexFunc_impl_Cart_impl_Cart__impl_CartsOk_1_2_so (List SCart × SCart × Int) (Int) slices_IndexFunc_impl_Cart_impl_Cart__impl_CartsOk_1_2_emb slices_IndexFunc_impl_Cart_impl_Cart__impl_CartsOk_1_2_prj (slices_IndexFunc_impl_Cart_impl_Cart__impl_CartsOk_1_2_b n)
noncomputable def slices_IndexFunc_impl_Cart_impl_Cart__impl_CartsOk_1_2_c : Code := ((loopCodes slices_IndexFunc_impl_Cart_impl_Cart__impl_CartsOk_1_code)[0]?).getD .skip
def slices_IndexFunc_impl_Cart_impl_Cart__impl_CartsOk_1_ann : Ann := fun id => bif Nat.beq id 3000002 then some ⟨[], [], []⟩ else bif Nat.beq id 2000002 then some ⟨[], [4], []⟩ else none
def slices_IndexFunc_impl_Cart_impl_Cart__impl_CartsOk_1_Ls (n : Nat) : Nat → Option (LSpec T) := fun id => bif Nat.beq id 2 then some (slices_IndexFunc_impl_Cart_impl_Cart__impl_CartsOk_1_2_sp n) else none
theorem slices_IndexFunc_impl_Cart_impl_Cart__impl_CartsOk_1_2_le (n : Nat) : LoopEq (T := T) (Phi n 26) (slices_IndexFunc_impl_Cart_impl_Cart__impl_CartsOk_1_Ls n) slices_IndexFunc_impl_Cart_impl_Cart__impl_CartsOk_1_ann n slices_IndexFunc_impl_Cart_impl_Cart__impl_CartsOk_1_2_c (slices_IndexFunc_impl_Cart_impl_Cart__impl_CartsOk_1_2_sp n) := ⟨mkSpec_dec (fun y => rfl), fun c x => by kernel_rfl, fun K J c x => by kernel_rfl⟩
theorem slices_IndexFunc_impl_Cart_impl_Cart__impl_CartsOk_1_tie (n : Nat) (s0 : List SCart) (f1c0 : SCart) : evF (T := T) (Phi n 26) (slices_IndexFunc_impl_Cart_impl_Cart__impl_CartsOk_1_Ls n) slices_IndexFunc_impl_Cart_impl_Cart__impl_CartsOk_1_ann n Try.f164 (sg 164) [vA T 72 s0, .fn 122 [.ptr 81 f1c0]] slices_IndexFunc_impl_Cart_impl_Cart__impl_CartsOk_1_dec = slices_IndexFunc_impl_Cart_impl_Cart__impl_CartsOk_1 n s0 f1c0 := by kernel_rfl
theorem slices_IndexFunc_impl_Cart_impl_Cart__impl_CartsOk_1_lo (n : Nat) : LoopsOk (T := T) (Phi n 26) (slices_IndexFunc_impl_Cart_impl_Cart__impl_CartsOk_1_Ls n) slices_IndexFunc_impl_Cart_impl_Cart__impl_CartsOk_1_ann n slices_IndexFunc_impl_Cart_impl_Cart__impl_CartsOk_1_code := loopsOk_all (cs := [slices_IndexFunc_impl_Cart_impl_Cart__impl_CartsOk_1_2_c]) (by kernel_rfl) ⟨⟨_, by kernel_rfl, slices_IndexFunc_impl_Cart_impl_Cart__impl_CartsOk_1_2_le n⟩, trivial⟩
theorem slices_IndexFunc_impl_Cart_impl_Cart__impl_CartsOk_1_ok (n : Nat) : EntOk Try.prog (ents n) (slices_IndexFunc_impl_Cart_impl_Cart__impl_CartsOk_1_ent n) := by
  intro hs ar y hg h
  replace h : slices_IndexFunc_impl_Cart_impl_Cart__impl_CartsOk_1_D n ar = some y := h
  unfold slices_IndexFunc_impl_Cart_impl_Cart__impl_CartsOk_1_D at h
  split at h
  · obtain ⟨s0, qh0, h⟩ := obind_some h
    obtain ⟨f1c0, qh1, h⟩ := obind_some h
    rw [argV_eq ok qh0, argP_eq qh1] at hg ⊢
    cases (show [_] = [122] from natsEq_eq hg)
    exact call_of (phiE_nat _ _) hs ok mixed Try.func164 (c := slices_IndexFunc_impl_Cart_impl_Cart__impl_CartsOk_1_code) (by kernel_rfl) (slices_IndexFunc_impl_Cart_impl_Cart__impl_CartsOk_1_lo n) (by kernel_rfl) (by kernel_rfl) (by kernel_rfl) slices_IndexFunc_impl_Cart_impl_Cart__impl_CartsOk_1_de ((slices_IndexFunc_impl_Cart_impl_Cart__impl_CartsOk_1_tie n s0 f1c0).trans h)
  · cases h
noncomputable def slices_ContainsFunc_impl_Cart_impl_Cart__impl_CartsOk_1_code : Code := match Try.f121.body with | some c => c | none => .skip
def slices_ContainsFunc_impl_Cart_impl_Cart__impl_CartsOk_1_ann : Ann := fun id => none
def slices_ContainsFunc_impl_Cart_impl_Cart__impl_CartsOk_1_Ls (n : Nat) : Nat → Option (LSpec T) := fun id => none
theorem slices_ContainsFunc_impl_Cart_impl_Cart__impl_CartsOk_1_tie (n : Nat) (s0 : List SCart) (f1c0 : SCart) : evF (T := T) (Phi n 27) (slices_ContainsFunc_impl_Cart_impl_Cart__impl_CartsOk_1_Ls n) slices_ContainsFunc_impl_Cart_impl_Cart__impl_CartsOk_1_ann n Try.f121 (sg 121) [vA T 72 s0, .fn 122 [.ptr 81 f1c0]] slices_ContainsFunc_impl_Cart_impl_Cart__impl_CartsOk_1_dec = slices_ContainsFunc_impl_Cart_impl_Cart__impl_CartsOk_1 n s0 f1c0 := by kernel_rfl
theorem slices_ContainsFunc_impl_Cart_impl_Cart__impl_CartsOk_1_lo (n : Nat) : LoopsOk (T := T) (Phi n 27) (slices_ContainsFunc_impl_Cart_impl_Cart__impl_CartsOk_1_Ls n) slices_ContainsFunc_impl_Cart_impl_Cart__impl_CartsOk_1_ann n slices_ContainsFunc_impl_Cart_impl_Cart__impl_CartsOk_1_code := loopsOk_all (cs := []) (by kernel_rfl) trivial
theorem slices_ContainsFunc_impl_Cart_impl_Cart__impl_CartsOk_1_ok (n : Nat) : EntOk Try.prog (ents n) (slices_ContainsFunc_impl_Cart_impl_Cart__impl_CartsOk_1_ent n) := by
  intro hs ar y hg h
  replace h : slices_ContainsFunc_impl_Cart_impl_Cart__impl_CartsOk_1_D n ar = some y := h
  unfold slices_ContainsFunc_impl_Cart_impl_Cart__impl_CartsOk_1_D at h
  split at h
  · obtain ⟨s0, qh0, h⟩ := obind_some h
    obtain ⟨f1c0, qh1, h⟩ := obind_some h
    rw [argV_eq ok qh0, argP_eq qh1] at hg ⊢
    cases (show [_] = [122] from natsEq_eq hg)
    exact call_of (phiE_nat _ _) hs ok mixed Try.func121 (c := slices_ContainsFunc_impl_Cart_impl_Cart__impl_CartsOk_1_code) (by kernel_rfl) (slices_ContainsFunc_impl_Cart_impl_Cart__impl_CartsOk_1_lo n) (by kernel_rfl) (by kernel_rfl) (by kernel_rfl) slices_ContainsFunc_impl_Cart_impl_Cart__impl_CartsOk_1_de ((slices_ContainsFunc_impl_Cart_impl_Cart__impl_CartsOk_1_tie n s0 f1c0).trans h)
  · cases h
noncomputable def impl_CartsOk_code : Code := match Try.f44.body with | some c => c | none => .skip
def impl_CartsOk_4_sv : List Sv := [.one (.arr 81), .one (.ptr 16 0 0), .one (.arr 81), .one (.int .i64), .one (.int .i64)]
def impl_CartsOk_4_so : List So := [.var [.int .i64, .int .i64, .arr 3]]
def impl_CartsOk_4_emb (c : List SCart × List SCart × Int × SFloor) (x : Int) : EVs T impl_CartsOk_4_sv × EOs T impl_CartsOk_4_so := ((c.1, (), c.2.1, c.2.2.1, x, ()), ((c.2.2.2.Wide, c.2.2.2.High, c.2.2.2.Ways, ()), ()))
def impl_CartsOk_4_prj (y : EVs T impl_CartsOk_4_sv × EOs T impl_CartsOk_4_so) : (List SCart × List SCart × Int × SFloor) × Int := ((y.1.1, y.1.2.2.1, y.1.2.2.2.1, ((⟨y.2.1.1, y.2.1.2.1, y.2.1.2.2.1⟩ : SFloor) : SFloor)), (y.1.2.2.2.2.1))
def impl_CartsOk_4_b (n : Nat) {R : Type} (K : Ex → Sm.St T → Option R) (c : List SCart × List SCart × Int × SFloor) (x : Int) (J : Int → Option R) : Option R :=
  impl_CartsOk_L4 n (K (.exit 0) (stOf (T := T) [] [] [] [] () ())) (fun (y0 : Bool) => K .ret (stOf (T := T) [4] [] [.one (.bool)] [] (y0, ()) ())) J c.1 c.2.1 c.2.2.1 x c.2.2.2
def impl_CartsOk_4_sp (n : Nat) : LSpec T := mkSpec T ⟨[], [1, 2, 15, 16, 17], [16]⟩ impl_CartsOk_4_sv impl_CartsOk_4_so (List SCart × List SCart × Int × SFloor) (Int) impl_CartsOk_4_emb impl_CartsOk_4_prj (impl_CartsOk_4_b n)
noncomputable def impl_CartsOk_4_c : Code := ((loopCodes impl_CartsOk_code)[0]?).getD .skip
def impl_CartsOk_ann : Ann := fun id => bif Nat.beq id 3000004 then some ⟨[], [], []⟩ else bif Nat.beq id 2000004 then some ⟨[], [4], []⟩ else none
def impl_CartsOk_Ls (n : Nat) : Nat → Option (LSpec T) := fun id => bif Nat.beq id 4 then some (impl_CartsOk_4_sp n) else none
theorem impl_CartsOk_4_le (n : Nat) : LoopEq (T := T) (Phi n 28) (impl_CartsOk_Ls n) impl_CartsOk_ann n impl_CartsOk_4_c (impl_CartsOk_4_sp n) := ⟨mkSpec_dec (fun y => rfl), fun c x => by kernel_rfl, fun K J c x => by kernel_rfl⟩
theorem impl_CartsOk_tie (n : Nat) (f0 : SFloor) (carts1 : List SCart) : evF (T := T) (Phi n 28) (impl_CartsOk_Ls n) impl_CartsOk_ann n Try.f44 (sg 44) [vA T 71 f0, vA T 72 carts1] impl_CartsOk_dec = impl_CartsOk n f0 carts1 := by kernel_rfl
theorem impl_CartsOk_lo (n : Nat) : LoopsOk (T := T) (Phi n 28) (impl_CartsOk_Ls n) impl_CartsOk_ann n impl_CartsOk_code := loopsOk_all (cs := [impl_CartsOk_4_c]) (by kernel_rfl) ⟨⟨_, by kernel_rfl, impl_CartsOk_4_le n⟩, trivial⟩
theorem impl_CartsOk_ok (n : Nat) : EntOk Try.prog (ents n) (impl_CartsOk_ent n) := by
  intro hs ar y hg h
  replace h : impl_CartsOk_D n ar = some y := h
  unfold impl_CartsOk_D at h
  replace h := ocons_some h
  obtain ⟨a0, r0, rfl, h⟩ := h
  replace h := ocons_some h
  obtain ⟨a1, r1, rfl, h⟩ := h
  replace h := onil_some h
  obtain ⟨rfl, h⟩ := h
  obtain ⟨f0, qh0, h⟩ := obind_some h
  obtain ⟨carts1, qh1, h⟩ := obind_some h
  rw [argV_eq ok qh0, argV_eq ok qh1]
  exact call_of (phiE_nat _ _) hs ok mixed Try.func44 (c := impl_CartsOk_code) (by kernel_rfl) (impl_CartsOk_lo n) (by kernel_rfl) (by kernel_rfl) (by kernel_rfl) impl_CartsOk_de ((impl_CartsOk_tie n f0 carts1).trans h)
noncomputable def impl_Floor_leads_code : Code := match Try.f165.body with | some c => c | none => .skip
def impl_Floor_leads_4_sv : List Sv := [.one (.int .i64), .one (.ptr 16 0 0), .one (.own 3000000 3 false), .one (.int .i64), .one (.int .i64), .one (.own 3000001 188 false), .one (.int .i64), .one (.int .i64)]
def impl_Floor_leads_4_so : List So := [.var [.int .i64, .int .i64, .arr 3], .arr 3 false, .arr 188 false]
def impl_Floor_leads_4_emb (c : Int × Int × Int × Int × SFloor × List SArr2_Int) (x : Int × List Int) : EVs T impl_Floor_leads_4_sv × EOs T impl_Floor_leads_4_so := ((c.1, (), (), c.2.1, c.2.2.1, (), c.2.2.2.1, x.1, ()), ((c.2.2.2.2.1.Wide, c.2.2.2.2.1.High, c.2.2.2.2.1.Ways, ()), x.2, c.2.2.2.2.2, ()))
def impl_Floor_leads_4_prj (y : EVs T impl_Floor_leads_4_sv × EOs T impl_Floor_leads_4_so) : (Int × Int × Int × Int × SFloor × List SArr2_Int) × (Int × List Int) := ((y.1.1, y.1.2.2.2.1, y.1.2.2.2.2.1, y.1.2.2.2.2.2.2.1, ((⟨y.2.1.1, y.2.1.2.1, y.2.1.2.2.1⟩ : SFloor) : SFloor), y.2.2.2.1), (y.1.2.2.2.2.2.2.2.1, y.2.2.1))
def impl_Floor_leads_4_b (n : Nat) {R : Type} (K : Ex → Sm.St T → Option R) (c : Int × Int × Int × Int × SFloor × List SArr2_Int) (x : Int × List Int) (J : (Int × List Int) → Option R) : Option R :=
  impl_Floor_leads_L4 n (fun (y0 : List Int) => K (.exit 0) (stOf (T := T) [5] [3000000] [.one (.own 3000000 3 false)] [.arr 3 false] ((), ()) (y0, ()))) (fun z0 z1 => J (z0, z1)) c.1 c.2.1 c.2.2.1 c.2.2.2.1 x.1 c.2.2.2.2.1 x.2 c.2.2.2.2.2
def impl_Floor_leads_4_sp (n : Nat) : LSpec T := mkSpec T ⟨[((.reg 5), 3000000, 3), ((.reg 24), 3000001, 188)], [1, 2, 5, 6, 7, 24, 25, 26], [16, 3000000, 3000001]⟩ impl_Floor_leads_4_sv impl_Floor_leads_4_so (Int × Int × Int × Int × SFloor × List SArr2_Int) (Int × List Int) impl_Floor_leads_4_emb impl_Floor_leads_4_prj (impl_Floor_leads_4_b n)
noncomputable def impl_Floor_leads_4_c : Code := ((loopCodes impl_Floor_leads_code)[0]?).getD .skip
def impl_Floor_leads_ann : Ann := fun id => bif Nat.beq id 3000004 then some ⟨[((.reg 5), 3000000, 3)], [5], [3000000]⟩ else none
def impl_Floor_leads_Ls (n : Nat) : Nat → Option (LSpec T) := fun id => bif Nat.beq id 4 then some (impl_Floor_leads_4_sp n) else none
theorem impl_Floor_leads_4_le (n : Nat) : LoopEq (T := T) (Phi n 29) (impl_Floor_leads_Ls n) impl_Floor_leads_ann n impl_Floor_leads_4_c (impl_Floor_leads_4_sp n) := ⟨mkSpec_dec (fun y => rfl), fun c x => by kernel_rfl, fun K J c x => by kernel_rfl⟩
theorem impl_Floor_leads_tie (n : Nat) (f0 : SFloor) (p1 : Int) : evF (T := T) (Phi n 29) (impl_Floor_leads_Ls n) impl_Floor_leads_ann n Try.f165 (sg 165) [vA T 71 f0, vA T 3 p1] impl_Floor_leads_dec = impl_Floor_leads n f0 p1 := by kernel_rfl
theorem impl_Floor_leads_lo (n : Nat) : LoopsOk (T := T) (Phi n 29) (impl_Floor_leads_Ls n) impl_Floor_leads_ann n impl_Floor_leads_code := loopsOk_all (cs := [impl_Floor_leads_4_c]) (by kernel_rfl) ⟨⟨_, by kernel_rfl, impl_Floor_leads_4_le n⟩, trivial⟩
theorem impl_Floor_leads_ok (n : Nat) : EntOk Try.prog (ents n) (impl_Floor_leads_ent n) := by
  intro hs ar y hg h
  replace h : impl_Floor_leads_D n ar = some y := h
  unfold impl_Floor_leads_D at h
  replace h := ocons_some h
  obtain ⟨a0, r0, rfl, h⟩ := h
  replace h := ocons_some h
  obtain ⟨a1, r1, rfl, h⟩ := h
  replace h := onil_some h
  obtain ⟨rfl, h⟩ := h
  obtain ⟨f0, qh0, h⟩ := obind_some h
  obtain ⟨p1, qh1, h⟩ := obind_some h
  rw [argV_eq ok qh0, argV_eq ok qh1]
  exact call_of (phiE_nat _ _) hs ok mixed Try.func165 (c := impl_Floor_leads_code) (by kernel_rfl) (impl_Floor_leads_lo n) (by kernel_rfl) (by kernel_rfl) (by kernel_rfl) impl_Floor_leads_de ((impl_Floor_leads_tie n f0 p1).trans h)
noncomputable def impl_Hops_1_code : Code := match Try.f166.body with | some c => c | none => .skip
def impl_Hops_1_ann : Ann := fun id => none
def impl_Hops_1_Ls (n : Nat) : Nat → Option (LSpec T) := fun id => none
theorem impl_Hops_1_tie (n : Nat) (q0 : Int) (a1 : List Int) (a2 : Int) : evF (T := T) (Phi n 30) (impl_Hops_1_Ls n) impl_Hops_1_ann n Try.f166 (sg 166) [vA T 3 q0, .ptr 41 a1, .ptr 3 a2] impl_Hops_1_dec = impl_Hops_1 n q0 a1 a2 := by kernel_rfl
theorem impl_Hops_1_lo (n : Nat) : LoopsOk (T := T) (Phi n 30) (impl_Hops_1_Ls n) impl_Hops_1_ann n impl_Hops_1_code := loopsOk_all (cs := []) (by kernel_rfl) trivial
theorem impl_Hops_1_ok (n : Nat) : EntOk Try.prog (ents n) (impl_Hops_1_ent n) := by
  intro hs ar y hg h
  replace h : impl_Hops_1_D n ar = some y := h
  unfold impl_Hops_1_D at h
  replace h := ocons_some h
  obtain ⟨a0, r0, rfl, h⟩ := h
  replace h := ocons_some h
  obtain ⟨a1, r1, rfl, h⟩ := h
  replace h := ocons_some h
  obtain ⟨a2, r2, rfl, h⟩ := h
  replace h := onil_some h
  obtain ⟨rfl, h⟩ := h
  obtain ⟨q0, qh0, h⟩ := obind_some h
  obtain ⟨a1, qh1, h⟩ := obind_some h
  obtain ⟨a2, qh2, h⟩ := obind_some h
  rw [argV_eq ok qh0, argP_eq qh1, argP_eq qh2]
  exact call_of (phiE_nat _ _) hs ok mixed Try.func166 (c := impl_Hops_1_code) (by kernel_rfl) (impl_Hops_1_lo n) (by kernel_rfl) (by kernel_rfl) (by kernel_rfl) impl_Hops_1_de ((impl_Hops_1_tie n q0 a1 a2).trans h)
noncomputable def slices_IndexFunc_int_int__impl_Hops_1_code : Code := match Try.f179.body with | some c => c | none => .skip
def slices_IndexFunc_int_int__impl_Hops_1_2_sv : List Sv := [.one (.arr 3), .one (.fnr 166 [41, 3]), .one (.int .i64), .one (.int .i64)]
def slices_IndexFunc_int_int__impl_Hops_1_2_so : List So := []
def slices_IndexFunc_int_int__impl_Hops_1_2_emb (c : List Int × List Int × Int × Int) (x : Int) : EVs T slices_IndexFunc_int_int__impl_Hops_1_2_sv × EOs T slices_IndexFunc_int_int__impl_Hops_1_2_so := ((c.1, (c.2.1, c.2.2.1, ()), c.2.2.2, x, ()), ())
def slices_IndexFunc_int_int__impl_Hops_1_2_prj (y : EVs T slices_IndexFunc_int_int__impl_Hops_1_2_sv × EOs T slices_IndexFunc_int_int__impl_Hops_1_2_so) : (List Int × List Int × Int × Int) × Int := ((y.1.1, y.1.2.1.1, y.1.2.1.2.1, y.1.2.2.1), (y.1.2.2.2.1))
def slices_IndexFunc_int_int__impl_Hops_1_2_b (n : Nat) {R : Type} (K : Ex → Sm.St T → Option R) (c : List Int × List Int × Int × Int) (x : Int) (J : Int → Option R) : Option R :=
  slices_IndexFunc_int_int__impl_Hops_1_L2 n (K (.exit 0) (stOf (T := T) [] [] [] [] () ())) (fun (y0 : Int) => K .ret (stOf (T := T) [4] [] [.one (.int .i64)] [] (y0, ()) ())) J c.1 c.2.1 c.2.2.1 c.2.2.2 x
def slices_IndexFunc_int_int__impl_Hops_1_2_sp (n : Nat) : LSpec T := mkSpec T ⟨[], [0, 1, 7, 8], []⟩ slices_IndexFunc_int_int__impl_Hops_1_2_sv slices_IndexFunc_int_int__impl_Hops_1_2_so (List Int × List Int × Int × Int) (Int) slices_IndexFunc_int_int__impl_Hops_1_2_emb slices_IndexFunc_int_int__impl_Hops_1_2_prj (slices_IndexFunc_int_int__impl_Hops_1_2_b n)
noncomputable def slices_IndexFunc_int_int__impl_Hops_1_2_c : Code := ((loopCodes slices_IndexFunc_int_int__impl_Hops_1_code)[0]?).getD .skip
def slices_IndexFunc_int_int__impl_Hops_1_ann : Ann := fun id => bif Nat.beq id 3000002 then some ⟨[], [], []⟩ else bif Nat.beq id 2000002 then some ⟨[], [4], []⟩ else none
def slices_IndexFunc_int_int__impl_Hops_1_Ls (n : Nat) : Nat → Option (LSpec T) := fun id => bif Nat.beq id 2 then some (slices_IndexFunc_int_int__impl_Hops_1_2_sp n) else none
theorem slices_IndexFunc_int_int__impl_Hops_1_2_le (n : Nat) : LoopEq (T := T) (Phi n 31) (slices_IndexFunc_int_int__impl_Hops_1_Ls n) slices_IndexFunc_int_int__impl_Hops_1_ann n slices_IndexFunc_int_int__impl_Hops_1_2_c (slices_IndexFunc_int_int__impl_Hops_1_2_sp n) := ⟨mkSpec_dec (fun y => rfl), fun c x => by kernel_rfl, fun K J c x => by kernel_rfl⟩
theorem slices_IndexFunc_int_int__impl_Hops_1_tie (n : Nat) (s0 : List Int) (f1c0 : List Int) (f1c1 : Int) : evF (T := T) (Phi n 31) (slices_IndexFunc_int_int__impl_Hops_1_Ls n) slices_IndexFunc_int_int__impl_Hops_1_ann n Try.f179 (sg 179) [vA T 41 s0, .fn 166 [.ptr 41 f1c0, .ptr 3 f1c1]] slices_IndexFunc_int_int__impl_Hops_1_dec = slices_IndexFunc_int_int__impl_Hops_1 n s0 f1c0 f1c1 := by kernel_rfl
theorem slices_IndexFunc_int_int__impl_Hops_1_lo (n : Nat) : LoopsOk (T := T) (Phi n 31) (slices_IndexFunc_int_int__impl_Hops_1_Ls n) slices_IndexFunc_int_int__impl_Hops_1_ann n slices_IndexFunc_int_int__impl_Hops_1_code := loopsOk_all (cs := [slices_IndexFunc_int_int__impl_Hops_1_2_c]) (by kernel_rfl) ⟨⟨_, by kernel_rfl, slices_IndexFunc_int_int__impl_Hops_1_2_le n⟩, trivial⟩
theorem slices_IndexFunc_int_int__impl_Hops_1_ok (n : Nat) : EntOk Try.prog (ents n) (slices_IndexFunc_int_int__impl_Hops_1_ent n) := by
  intro hs ar y hg h
  replace h : slices_IndexFunc_int_int__impl_Hops_1_D n ar = some y := h
  unfold slices_IndexFunc_int_int__impl_Hops_1_D at h
  split at h
  · obtain ⟨s0, qh0, h⟩ := obind_some h
    obtain ⟨f1c0, qh1, h⟩ := obind_some h
    obtain ⟨f1c1, qh2, h⟩ := obind_some h
    rw [argV_eq ok qh0, argP_eq qh1, argP_eq qh2] at hg ⊢
    cases (show [_] = [166] from natsEq_eq hg)
    exact call_of (phiE_nat _ _) hs ok mixed Try.func179 (c := slices_IndexFunc_int_int__impl_Hops_1_code) (by kernel_rfl) (slices_IndexFunc_int_int__impl_Hops_1_lo n) (by kernel_rfl) (by kernel_rfl) (by kernel_rfl) slices_IndexFunc_int_int__impl_Hops_1_de ((slices_IndexFunc_int_int__impl_Hops_1_tie n s0 f1c0 f1c1).trans h)
  · cases h
noncomputable def slices_ContainsFunc_int_int__impl_Hops_1_code : Code := match Try.f162.body with | some c => c | none => .skip
def slices_ContainsFunc_int_int__impl_Hops_1_ann : Ann := fun id => none
def slices_ContainsFunc_int_int__impl_Hops_1_Ls (n : Nat) : Nat → Option (LSpec T) := fun id => none
theorem slices_ContainsFunc_int_int__impl_Hops_1_tie (n : Nat) (s0 : List Int) (f1c0 : List Int) (f1c1 : Int) : evF (T := T) (Phi n 32) (slices_ContainsFunc_int_int__impl_Hops_1_Ls n) slices_ContainsFunc_int_int__impl_Hops_1_ann n Try.f162 (sg 162) [vA T 41 s0, .fn 166 [.ptr 41 f1c0, .ptr 3 f1c1]] slices_ContainsFunc_int_int__impl_Hops_1_dec = slices_ContainsFunc_int_int__impl_Hops_1 n s0 f1c0 f1c1 := by kernel_rfl
theorem slices_ContainsFunc_int_int__impl_Hops_1_lo (n : Nat) : LoopsOk (T := T) (Phi n 32) (slices_ContainsFunc_int_int__impl_Hops_1_Ls n) slices_ContainsFunc_int_int__impl_Hops_1_ann n slices_ContainsFunc_int_int__impl_Hops_1_code := loopsOk_all (cs := []) (by kernel_rfl) trivial
theorem slices_ContainsFunc_int_int__impl_Hops_1_ok (n : Nat) : EntOk Try.prog (ents n) (slices_ContainsFunc_int_int__impl_Hops_1_ent n) := by
  intro hs ar y hg h
  replace h : slices_ContainsFunc_int_int__impl_Hops_1_D n ar = some y := h
  unfold slices_ContainsFunc_int_int__impl_Hops_1_D at h
  split at h
  · obtain ⟨s0, qh0, h⟩ := obind_some h
    obtain ⟨f1c0, qh1, h⟩ := obind_some h
    obtain ⟨f1c1, qh2, h⟩ := obind_some h
    rw [argV_eq ok qh0, argP_eq qh1, argP_eq qh2] at hg ⊢
    cases (show [_] = [166] from natsEq_eq hg)
    exact call_of (phiE_nat _ _) hs ok mixed Try.func162 (c := slices_ContainsFunc_int_int__impl_Hops_1_code) (by kernel_rfl) (slices_ContainsFunc_int_int__impl_Hops_1_lo n) (by kernel_rfl) (by kernel_rfl) (by kernel_rfl) slices_ContainsFunc_int_int__impl_Hops_1_de ((slices_ContainsFunc_int_int__impl_Hops_1_tie n s0 f1c0 f1c1).trans h)
  · cases h
noncomputable def impl_Hops_code : Code := match Try.f126.body with | some c => c | none => .skip
def impl_Hops_5_sv : List Sv := [.one (.int .i64), .one (.ptr 3000000 0 0), .one (.ptr 3000001 0 0), .one (.int .i64), .one (.int .i64)]
def impl_Hops_5_so : List So := [.var [.int .i64, .int .i64, .arr 3], .var [.own 184 3 false], .arr 3 false]
def impl_Hops_5_emb (c : Int × Int × SFloor) (x : Int × List Int) : EVs T impl_Hops_5_sv × EOs T impl_Hops_5_so := ((c.1, (), (), c.2.1, x.1, ()), ((c.2.2.Wide, c.2.2.High, c.2.2.Ways, ()), ((), ()), x.2, ()))
def impl_Hops_5_prj (y : EVs T impl_Hops_5_sv × EOs T impl_Hops_5_so) : (Int × Int × SFloor) × (Int × List Int) := ((y.1.1, y.1.2.2.2.1, ((⟨y.2.1.1, y.2.1.2.1, y.2.1.2.2.1⟩ : SFloor) : SFloor)), (y.1.2.2.2.2.1, y.2.2.2.1))
def impl_Hops_5_b (n : Nat) {R : Type} (K : Ex → Sm.St T → Option R) (c : Int × Int × SFloor) (x : Int × List Int) (J : (Int × List Int) → Option R) : Option R :=
  impl_Hops_L5 n (fun (y2 : List Int) => K (.exit 0) (stOf (T := T) [1, 2, 6] [3000000, 3000001, 3000003] [.one (.int .i64), .one (.ptr 3000000 0 0), .one (.ptr 3000001 0 0)] [.var [.int .i64, .int .i64, .arr 3], .var [.own 3000003 3 false], .arr 3 false] (c.1, (), (), ()) ((c.2.2.Wide, c.2.2.High, c.2.2.Ways, ()), ((), ()), y2, ()))) (fun z0 z1 => J (z0, z1)) c.1 c.2.1 x.1 c.2.2 x.2
def impl_Hops_5_sp (n : Nat) : LSpec T := mkSpec T ⟨[((.reg 2), 3000000, 0), ((.reg 6), 3000001, 0), ((.cell 48 0), 3000002, 3)], [1, 2, 6, 25, 26], [3000000, 3000001, 184]⟩ impl_Hops_5_sv impl_Hops_5_so (Int × Int × SFloor) (Int × List Int) impl_Hops_5_emb impl_Hops_5_prj (impl_Hops_5_b n)
noncomputable def impl_Hops_5_c : Code := ((loopCodes impl_Hops_code)[0]?).getD .skip
def impl_Hops_11_sv : List Sv := [.one (.ptr 3000000 0 0), .one (.ptr 3000001 0 0), .one (.ptr 3000004 0 0), .one (.bool)]
def impl_Hops_11_so : List So := [.var [.int .i64, .int .i64, .arr 3], .var [.own 3000003 3 false], .arr 3 false, .var [.int .i64]]
def impl_Hops_11_emb (c : SFloor) (x : Bool × List Int × Int) : EVs T impl_Hops_11_sv × EOs T impl_Hops_11_so := (((), (), (), x.1, ()), ((c.Wide, c.High, c.Ways, ()), ((), ()), x.2.1, (x.2.2, ()), ()))
def impl_Hops_11_prj (y : EVs T impl_Hops_11_sv × EOs T impl_Hops_11_so) : SFloor × (Bool × List Int × Int) := ((((⟨y.2.1.1, y.2.1.2.1, y.2.1.2.2.1⟩ : SFloor) : SFloor)), (y.1.2.2.2.1, y.2.2.2.1, y.2.2.2.2.1.1))
def impl_Hops_11_b (n : Nat) {R : Type} (K : Ex → Sm.St T → Option R) (c : SFloor) (x : Bool × List Int × Int) (J : (Bool × List Int × Int) → Option R) : Option R :=
  impl_Hops_L11 n (fun (y0 : List Int) => K (.exit 2) (stOf (T := T) [6] [3000001, 3000003] [.one (.ptr 3000001 0 0)] [.var [.own 3000003 3 false], .arr 3 false] ((), ()) (((), ()), y0, ()))) (fun z0 z1 z2 => J (z0, z1, z2)) x.1 c x.2.1 x.2.2
def impl_Hops_11_sp (n : Nat) : LSpec T := mkSpec T ⟨[((.reg 2), 3000000, 0), ((.reg 6), 3000001, 0), ((.reg 8), 3000004, 0), ((.cell 3000001 0), 3000003, 3)], [2, 6, 8, 9], [3000000, 3000001, 3000003, 3000004]⟩ impl_Hops_11_sv impl_Hops_11_so (SFloor) (Bool × List Int × Int) impl_Hops_11_emb impl_Hops_11_prj (impl_Hops_11_b n)
noncomputable def impl_Hops_11_c : Code := ((loopCodes impl_Hops_code)[1]?).getD .skip
def impl_Hops_15_sv : List Sv := [.one (.ptr 3000000 0 0), .one (.ptr 3000001 0 0), .one (.ptr 3000004 0 0), .one (.bool), .one (.int .i64), .one (.int .i64)]
def impl_Hops_15_so : List So := [.var [.int .i64, .int .i64, .arr 3], .var [.own 3000003 3 false], .arr 3 false, .var [.int .i64]]
def impl_Hops_15_emb (c : Int × SFloor × Int) (x : Bool × Int × List Int) : EVs T impl_Hops_15_sv × EOs T impl_Hops_15_so := (((), (), (), x.1, c.1, x.2.1, ()), ((c.2.1.Wide, c.2.1.High, c.2.1.Ways, ()), ((), ()), x.2.2, (c.2.2, ()), ()))
def impl_Hops_15_prj (y : EVs T impl_Hops_15_sv × EOs T impl_Hops_15_so) : (Int × SFloor × Int) × (Bool × Int × List Int) := ((y.1.2.2.2.2.1, ((⟨y.2.1.1, y.2.1.2.1, y.2.1.2.2.1⟩ : SFloor) : SFloor), y.2.2.2.2.1.1), (y.1.2.2.2.1, y.1.2.2.2.2.2.1, y.2.2.2.1))
def impl_Hops_15_b (n : Nat) {R : Type} (K : Ex → Sm.St T → Option R) (c : Int × SFloor × Int) (x : Bool × Int × List Int) (J : (Bool × Int × List Int) → Option R) : Option R :=
  impl_Hops_L15 n (fun (y0 : Bool) (y2 : List Int) => K (.exit 4) (stOf (T := T) [2, 6, 8, 9] [3000000, 3000001, 3000003, 3000004] [.one (.ptr 3000000 0 0), .one (.ptr 3000001 0 0), .one (.ptr 3000004 0 0), .one (.bool)] [.var [.int .i64, .int .i64, .arr 3], .var [.own 3000003 3 false], .arr 3 false, .var [.int .i64]] ((), (), (), y0, ()) ((c.2.1.Wide, c.2.1.High, c.2.1.Ways, ()), ((), ()), y2, (c.2.2, ()), ()))) (fun z0 z1 z2 => J (z0, z1, z2)) x.1 c.1 x.2.1 c.2.1 x.2.2 c.2.2
def impl_Hops_15_sp (n : Nat) : LSpec T := mkSpec T ⟨[((.reg 2), 3000000, 0), ((.reg 6), 3000001, 0), ((.reg 8), 3000004, 0), ((.cell 3000001 0), 3000003, 3)], [2, 6, 8, 9, 40, 41], [3000000, 3000001, 3000003, 3000004]⟩ impl_Hops_15_sv impl_Hops_15_so (Int × SFloor × Int) (Bool × Int × List Int) impl_Hops_15_emb impl_Hops_15_prj (impl_Hops_15_b n)
noncomputable def impl_Hops_15_c : Code := ((loopCodes impl_Hops_code)[2]?).getD .skip
def impl_Hops_ann : Ann := fun id => bif Nat.beq id 3000005 then some ⟨[((.reg 2), 3000000, 0), ((.reg 6), 3000001, 0), ((.cell 3000001 0), 3000003, 3)], [1, 2, 6], [3000000, 3000001, 3000003]⟩ else bif Nat.beq id 5000011 then some ⟨[((.reg 6), 3000001, 0), ((.cell 3000001 0), 3000003, 3)], [6], [3000001, 3000003]⟩ else bif Nat.beq id 7000015 then some ⟨[((.reg 2), 3000000, 0), ((.reg 6), 3000001, 0), ((.reg 8), 3000004, 0), ((.cell 3000001 0), 3000003, 3)], [2, 6, 8, 9], [3000000, 3000001, 3000003, 3000004]⟩ else none
def impl_Hops_Ls (n : Nat) : Nat → Option (LSpec T) := fun id => bif Nat.beq id 5 then some (impl_Hops_5_sp n) else bif Nat.beq id 11 then some (impl_Hops_11_sp n) else bif Nat.beq id 15 then some (impl_Hops_15_sp n) else none
theorem impl_Hops_5_le (n : Nat) : LoopEq (T := T) (Phi n 33) (impl_Hops_Ls n) impl_Hops_ann n impl_Hops_5_c (impl_Hops_5_sp n) := ⟨mkSpec_dec (fun y => rfl), fun c x => by kernel_rfl, fun K J c x => by kernel_rfl⟩
theorem impl_Hops_11_le (n : Nat) : LoopEq (T := T) (Phi n 33) (impl_Hops_Ls n) impl_Hops_ann n impl_Hops_11_c (impl_Hops_11_sp n) := ⟨mkSpec_dec (fun y => rfl), fun c x => by kernel_rfl, fun K J c x => by kernel_rfl⟩
theorem impl_Hops_15_le (n : Nat) : LoopEq (T := T) (Phi n 33) (impl_Hops_Ls n) impl_Hops_ann n impl_Hops_15_c (impl_Hops_15_sp n) := ⟨mkSpec_dec (fun y => rfl), fun c x => by kernel_rfl, fun K J c x => by kernel_rfl⟩
theorem impl_Hops_tie (n : Nat) (f0 : SFloor) (goal1 : Int) : evF (T := T) (Phi n 33) (impl_Hops_Ls n) impl_Hops_ann n Try.f126 (sg 126) [vA T 71 f0, vA T 3 goal1] impl_Hops_dec = impl_Hops n f0 goal1 := by kernel_rfl
theorem impl_Hops_lo (n : Nat) : LoopsOk (T := T) (Phi n 33) (impl_Hops_Ls n) impl_Hops_ann n impl_Hops_code := loopsOk_all (cs := [impl_Hops_5_c, impl_Hops_11_c, impl_Hops_15_c]) (by kernel_rfl) ⟨⟨_, by kernel_rfl, impl_Hops_5_le n⟩, ⟨_, by kernel_rfl, impl_Hops_11_le n⟩, ⟨_, by kernel_rfl, impl_Hops_15_le n⟩, trivial⟩
theorem impl_Hops_ok (n : Nat) : EntOk Try.prog (ents n) (impl_Hops_ent n) := by
  intro hs ar y hg h
  replace h : impl_Hops_D n ar = some y := h
  unfold impl_Hops_D at h
  replace h := ocons_some h
  obtain ⟨a0, r0, rfl, h⟩ := h
  replace h := ocons_some h
  obtain ⟨a1, r1, rfl, h⟩ := h
  replace h := onil_some h
  obtain ⟨rfl, h⟩ := h
  obtain ⟨f0, qh0, h⟩ := obind_some h
  obtain ⟨goal1, qh1, h⟩ := obind_some h
  rw [argV_eq ok qh0, argV_eq ok qh1]
  exact call_of (phiE_nat _ _) hs ok mixed Try.func126 (c := impl_Hops_code) (by kernel_rfl) (impl_Hops_lo n) (by kernel_rfl) (by kernel_rfl) (by kernel_rfl) impl_Hops_de ((impl_Hops_tie n f0 goal1).trans h)
noncomputable def impl_Floor_want_code : Code := match Try.f123.body with | some c => c | none => .skip
def impl_Floor_want_5_sv : List Sv := [.one (.ptr 24 0 0), .one (.own 3000000 3 false), .one (.own 3000001 3 false), .one (.int .i64), .one (.int .i64)]
def impl_Floor_want_5_so : List So := [.var [.int .i64, .int .i64], .arr 3 false, .arr 3 false]
def impl_Floor_want_5_emb (c : Int × SCart × List Int × List Int) (x : Int) : EVs T impl_Floor_want_5_sv × EOs T impl_Floor_want_5_so := (((), (), (), c.1, x, ()), ((c.2.1.At, c.2.1.Goal, ()), c.2.2.1, c.2.2.2, ()))
def impl_Floor_want_5_prj (y : EVs T impl_Floor_want_5_sv × EOs T impl_Floor_want_5_so) : (Int × SCart × List Int × List Int) × Int := ((y.1.2.2.2.1, ((⟨y.2.1.1, y.2.1.2.1⟩ : SCart) : SCart), y.2.2.1, y.2.2.2.1), (y.1.2.2.2.2.1))
def impl_Floor_want_5_b (n : Nat) {R : Type} (K : Ex → Sm.St T → Option R) (c : Int × SCart × List Int × List Int) (x : Int) (J : Int → Option R) : Option R :=
  impl_Floor_want_L5 n (K (.exit 0) (stOf (T := T) [] [] [] [] () ())) (fun (y0 : Int) => K .ret (stOf (T := T) [4] [] [.one (.int .i64)] [] (y0, ()) ())) J c.1 x c.2.1 c.2.2.1 c.2.2.2
def impl_Floor_want_5_sp (n : Nat) : LSpec T := mkSpec T ⟨[((.reg 5), 3000000, 3), ((.reg 29), 3000001, 3)], [3, 5, 29, 30, 31], [24, 3000000, 3000001]⟩ impl_Floor_want_5_sv impl_Floor_want_5_so (Int × SCart × List Int × List Int) (Int) impl_Floor_want_5_emb impl_Floor_want_5_prj (impl_Floor_want_5_b n)
noncomputable def impl_Floor_want_5_c : Code := ((loopCodes impl_Floor_want_code)[0]?).getD .skip
def impl_Floor_want_ann : Ann := fun id => bif Nat.beq id 3000005 then some ⟨[], [], []⟩ else bif Nat.beq id 2000005 then some ⟨[], [4], []⟩ else none
def impl_Floor_want_Ls (n : Nat) : Nat → Option (LSpec T) := fun id => bif Nat.beq id 5 then some (impl_Floor_want_5_sp n) else none
theorem impl_Floor_want_5_le (n : Nat) : LoopEq (T := T) (Phi n 34) (impl_Floor_want_Ls n) impl_Floor_want_ann n impl_Floor_want_5_c (impl_Floor_want_5_sp n) := ⟨mkSpec_dec (fun y => rfl), fun c x => by kernel_rfl, fun K J c x => by kernel_rfl⟩
theorem impl_Floor_want_tie (n : Nat) (f0 : SFloor) (c1 : SCart) : evF (T := T) (Phi n 34) (impl_Floor_want_Ls n) impl_Floor_want_ann n Try.f123 (sg 123) [vA T 71 f0, vA T 81 c1] impl_Floor_want_dec = impl_Floor_want n f0 c1 := by kernel_rfl
theorem impl_Floor_want_lo (n : Nat) : LoopsOk (T := T) (Phi n 34) (impl_Floor_want_Ls n) impl_Floor_want_ann n impl_Floor_want_code := loopsOk_all (cs := [impl_Floor_want_5_c]) (by kernel_rfl) ⟨⟨_, by kernel_rfl, impl_Floor_want_5_le n⟩, trivial⟩
theorem impl_Floor_want_ok (n : Nat) : EntOk Try.prog (ents n) (impl_Floor_want_ent n) := by
  intro hs ar y hg h
  replace h : impl_Floor_want_D n ar = some y := h
  unfold impl_Floor_want_D at h
  replace h := ocons_some h
  obtain ⟨a0, r0, rfl, h⟩ := h
  replace h := ocons_some h
  obtain ⟨a1, r1, rfl, h⟩ := h
  replace h := onil_some h
  obtain ⟨rfl, h⟩ := h
  obtain ⟨f0, qh0, h⟩ := obind_some h
  obtain ⟨c1, qh1, h⟩ := obind_some h
  rw [argV_eq ok qh0, argV_eq ok qh1]
  exact call_of (phiE_nat _ _) hs ok mixed Try.func123 (c := impl_Floor_want_code) (by kernel_rfl) (impl_Floor_want_lo n) (by kernel_rfl) (by kernel_rfl) (by kernel_rfl) impl_Floor_want_de ((impl_Floor_want_tie n f0 c1).trans h)
noncomputable def impl_Round_1_code : Code := match Try.f124.body with | some c => c | none => .skip
def impl_Round_1_5_sv : List Sv := [.one (.int .i64), .one (.rptr 41 0), .one (.rptr 72 0), .one (.int .i64), .one (.arr 81), .one (.int .i64), .one (.int .i64)]
def impl_Round_1_5_so : List So := []
def impl_Round_1_5_emb (c : Int × List Int × List SCart × Int × List SCart × Int) (x : Int) : EVs T impl_Round_1_5_sv × EOs T impl_Round_1_5_so := ((c.1, c.2.1, c.2.2.1, c.2.2.2.1, c.2.2.2.2.1, c.2.2.2.2.2, x, ()), ())
def impl_Round_1_5_prj (y : EVs T impl_Round_1_5_sv × EOs T impl_Round_1_5_so) : (Int × List Int × List SCart × Int × List SCart × Int) × Int := ((y.1.1, y.1.2.1, y.1.2.2.1, y.1.2.2.2.1, y.1.2.2.2.2.1, y.1.2.2.2.2.2.1), (y.1.2.2.2.2.2.2.1))
def impl_Round_1_5_b (n : Nat) {R : Type} (K : Ex → Sm.St T → Option R) (c : Int × List Int × List SCart × Int × List SCart × Int) (x : Int) (J : Int → Option R) : Option R :=
  impl_Round_1_L5 n (K (.exit 0) (stOf (T := T) [] [] [] [] () ())) (fun (y0 : Bool) => K .ret (stOf (T := T) [4] [] [.one (.bool)] [] (y0, ()) ())) J c.1 c.2.1 c.2.2.1 c.2.2.2.1 c.2.2.2.2.1 c.2.2.2.2.2 x
def impl_Round_1_5_sp (n : Nat) : LSpec T := mkSpec T ⟨[], [0, 1, 2, 5, 14, 15, 16], []⟩ impl_Round_1_5_sv impl_Round_1_5_so (Int × List Int × List SCart × Int × List SCart × Int) (Int) impl_Round_1_5_emb impl_Round_1_5_prj (impl_Round_1_5_b n)
noncomputable def impl_Round_1_5_c : Code := ((loopCodes impl_Round_1_code)[0]?).getD .skip
def impl_Round_1_ann : Ann := fun id => bif Nat.beq id 3000005 then some ⟨[], [], []⟩ else bif Nat.beq id 2000005 then some ⟨[], [4], []⟩ else none
def impl_Round_1_Ls (n : Nat) : Nat → Option (LSpec T) := fun id => bif Nat.beq id 5 then some (impl_Round_1_5_sp n) else none
theorem impl_Round_1_5_le (n : Nat) : LoopEq (T := T) (Phi n 35) (impl_Round_1_Ls n) impl_Round_1_ann n impl_Round_1_5_c (impl_Round_1_5_sp n) := ⟨mkSpec_dec (fun y => rfl), fun c x => by kernel_rfl, fun K J c x => by kernel_rfl⟩
theorem impl_Round_1_tie (n : Nat) (i0 : Int) (a1 : List Int) (a2 : List SCart) : evF (T := T) (Phi n 35) (impl_Round_1_Ls n) impl_Round_1_ann n Try.f124 (sg 124) [vA T 3 i0, .ptr 41 a1, .ptr 72 a2] impl_Round_1_dec = impl_Round_1 n i0 a1 a2 := by kernel_rfl
theorem impl_Round_1_lo (n : Nat) : LoopsOk (T := T) (Phi n 35) (impl_Round_1_Ls n) impl_Round_1_ann n impl_Round_1_code := loopsOk_all (cs := [impl_Round_1_5_c]) (by kernel_rfl) ⟨⟨_, by kernel_rfl, impl_Round_1_5_le n⟩, trivial⟩
theorem impl_Round_1_ok (n : Nat) : EntOk Try.prog (ents n) (impl_Round_1_ent n) := by
  intro hs ar y hg h
  replace h : impl_Round_1_D n ar = some y := h
  unfold impl_Round_1_D at h
  replace h := ocons_some h
  obtain ⟨a0, r0, rfl, h⟩ := h
  replace h := ocons_some h
  obtain ⟨a1, r1, rfl, h⟩ := h
  replace h := ocons_some h
  obtain ⟨a2, r2, rfl, h⟩ := h
  replace h := onil_some h
  obtain ⟨rfl, h⟩ := h
  obtain ⟨i0, qh0, h⟩ := obind_some h
  obtain ⟨a1, qh1, h⟩ := obind_some h
  obtain ⟨a2, qh2, h⟩ := obind_some h
  rw [argV_eq ok qh0, argP_eq qh1, argP_eq qh2]
  exact call_of (phiE_nat _ _) hs ok mixed Try.func124 (c := impl_Round_1_code) (by kernel_rfl) (impl_Round_1_lo n) (by kernel_rfl) (by kernel_rfl) (by kernel_rfl) impl_Round_1_de ((impl_Round_1_tie n i0 a1 a2).trans h)
noncomputable def impl_own_impl_Cart_code : Code := match Try.f125.body with | some c => c | none => .skip
def impl_own_impl_Cart_ann : Ann := fun id => none
def impl_own_impl_Cart_Ls (n : Nat) : Nat → Option (LSpec T) := fun id => none
theorem impl_own_impl_Cart_tie (n : Nat) (l0 : List SCart) : evF (T := T) (Phi n 36) (impl_own_impl_Cart_Ls n) impl_own_impl_Cart_ann n Try.f125 (sg 125) [vA T 72 l0] impl_own_impl_Cart_dec = impl_own_impl_Cart n l0 := by kernel_rfl
theorem impl_own_impl_Cart_lo (n : Nat) : LoopsOk (T := T) (Phi n 36) (impl_own_impl_Cart_Ls n) impl_own_impl_Cart_ann n impl_own_impl_Cart_code := loopsOk_all (cs := []) (by kernel_rfl) trivial
theorem impl_own_impl_Cart_ok (n : Nat) : EntOk Try.prog (ents n) (impl_own_impl_Cart_ent n) := by
  intro hs ar y hg h
  replace h : impl_own_impl_Cart_D n ar = some y := h
  unfold impl_own_impl_Cart_D at h
  replace h := ocons_some h
  obtain ⟨a0, r0, rfl, h⟩ := h
  replace h := onil_some h
  obtain ⟨rfl, h⟩ := h
  obtain ⟨l0, qh0, h⟩ := obind_some h
  rw [argV_eq ok qh0]
  exact call_of (phiE_nat _ _) hs ok mixed Try.func125 (c := impl_own_impl_Cart_code) (by kernel_rfl) (impl_own_impl_Cart_lo n) (by kernel_rfl) (by kernel_rfl) (by kernel_rfl) impl_own_impl_Cart_de ((impl_own_impl_Cart_tie n l0).trans h)
noncomputable def impl_own_int_code : Code := match Try.f99.body with | some c => c | none => .skip
def impl_own_int_ann : Ann := fun id => none
def impl_own_int_Ls (n : Nat) : Nat → Option (LSpec T) := fun id => none
theorem impl_own_int_tie (n : Nat) (l0 : List Int) : evF (T := T) (Phi n 37) (impl_own_int_Ls n) impl_own_int_ann n Try.f99 (sg 99) [vA T 41 l0] impl_own_int_dec = impl_own_int n l0 := by kernel_rfl
theorem impl_own_int_lo (n : Nat) : LoopsOk (T := T) (Phi n 37) (impl_own_int_Ls n) impl_own_int_ann n impl_own_int_code := loopsOk_all (cs := []) (by kernel_rfl) trivial
theorem impl_own_int_ok (n : Nat) : EntOk Try.prog (ents n) (impl_own_int_ent n) := by
  intro hs ar y hg h
  replace h : impl_own_int_D n ar = some y := h
  unfold impl_own_int_D at h
  replace h := ocons_some h
  obtain ⟨a0, r0, rfl, h⟩ := h
  replace h := onil_some h
  obtain ⟨rfl, h⟩ := h
  obtain ⟨l0, qh0, h⟩ := obind_some h
  rw [argV_eq ok qh0]
  exact call_of (phiE_nat _ _) hs ok mixed Try.func99 (c := impl_own_int_code) (by kernel_rfl) (impl_own_int_lo n) (by kernel_rfl) (by kernel_rfl) (by kernel_rfl) impl_own_int_de ((impl_own_int_tie n l0).trans h)
noncomputable def impl_Round_code : Code := match Try.f45.body with | some c => c | none => .skip
def impl_Round_5_sv : List Sv := [.one (.ptr 16 0 0), .one (.ptr 24 0 0), .one (.ptr 56 0 0), .one (.arr 81), .one (.int .i64), .one (.int .i64)]
def impl_Round_5_so : List So := [.var [.int .i64, .int .i64, .arr 3], .var [.arr 81], .var [.own 3000000 3 false], .arr 3 false]
def impl_Round_5_emb (c : List SCart × Int × SFloor × List SCart) (x : Int × List Int) : EVs T impl_Round_5_sv × EOs T impl_Round_5_so := (((), (), (), c.1, c.2.1, x.1, ()), ((c.2.2.1.Wide, c.2.2.1.High, c.2.2.1.Ways, ()), (c.2.2.2, ()), ((), ()), x.2, ()))
def impl_Round_5_prj (y : EVs T impl_Round_5_sv × EOs T impl_Round_5_so) : (List SCart × Int × SFloor × List SCart) × (Int × List Int) := ((y.1.2.2.2.1, y.1.2.2.2.2.1, ((⟨y.2.1.1, y.2.1.2.1, y.2.1.2.2.1⟩ : SFloor) : SFloor), y.2.2.1.1), (y.1.2.2.2.2.2.1, y.2.2.2.2.1))
def impl_Round_5_b (n : Nat) {R : Type} (K : Ex → Sm.St T → Option R) (c : List SCart × Int × SFloor × List SCart) (x : Int × List Int) (J : (Int × List Int) → Option R) : Option R :=
  impl_Round_L5 n (fun (y1 : List Int) => K (.exit 0) (stOf (T := T) [3, 7] [24, 56, 3000000] [.one (.ptr 24 0 0), .one (.ptr 56 0 0)] [.var [.arr 81], .var [.own 3000000 3 false], .arr 3 false] ((), (), ()) ((c.2.2.2, ()), ((), ()), y1, ()))) (fun z0 z1 => J (z0, z1)) c.1 c.2.1 x.1 c.2.2.1 c.2.2.2 x.2
def impl_Round_5_sp (n : Nat) : LSpec T := mkSpec T ⟨[((.cell 56 0), 3000000, 3)], [2, 3, 7, 23, 24, 25], [16, 24, 56, 3000000]⟩ impl_Round_5_sv impl_Round_5_so (List SCart × Int × SFloor × List SCart) (Int × List Int) impl_Round_5_emb impl_Round_5_prj (impl_Round_5_b n)
noncomputable def impl_Round_5_c : Code := ((loopCodes impl_Round_code)[0]?).getD .skip
def impl_Round_10_sv : List Sv := [.one (.ptr 24 0 0), .one (.ptr 56 0 0), .one (.fn 124 [56, 24])]
def impl_Round_10_so : List So := [.var [.arr 81], .var [.own 3000000 3 false], .arr 3 false]
def impl_Round_10_emb (c : List SCart) (x : List Int) : EVs T impl_Round_10_sv × EOs T impl_Round_10_so := (((), (), (), ()), ((c, ()), ((), ()), x, ()))
def impl_Round_10_prj (y : EVs T impl_Round_10_sv × EOs T impl_Round_10_so) : List SCart × List Int := ((y.2.1.1), (y.2.2.2.1))
def impl_Round_10_b (n : Nat) {R : Type} (K : Ex → Sm.St T → Option R) (c : List SCart) (x : List Int) (J : (List Int) → Option R) : Option R :=
  impl_Round_L10 n (fun (y1 : List Int) => K (.exit 2) (stOf (T := T) [3, 7] [24, 56, 3000000] [.one (.ptr 24 0 0), .one (.ptr 56 0 0)] [.var [.arr 81], .var [.own 3000000 3 false], .arr 3 false] ((), (), ()) ((c, ()), ((), ()), y1, ()))) J c x
def impl_Round_10_sp (n : Nat) : LSpec T := mkSpec T ⟨[((.cell 56 0), 3000000, 3)], [3, 7, 10], [24, 56, 3000000]⟩ impl_Round_10_sv impl_Round_10_so (List SCart) (List Int) impl_Round_10_emb impl_Round_10_prj (impl_Round_10_b n)
noncomputable def impl_Round_10_c : Code := ((loopCodes impl_Round_code)[1]?).getD .skip
def impl_Round_11_sv : List Sv := [.one (.ptr 24 0 0), .one (.ptr 56 0 0), .one (.fn 124 [56, 24]), .one (.int .i64)]
def impl_Round_11_so : List So := [.var [.arr 81], .var [.own 3000000 3 false], .arr 3 false]
def impl_Round_11_emb (c : List SCart × List Int) (x : Int) : EVs T impl_Round_11_sv × EOs T impl_Round_11_so := (((), (), (), x, ()), ((c.1, ()), ((), ()), c.2, ()))
def impl_Round_11_prj (y : EVs T impl_Round_11_sv × EOs T impl_Round_11_so) : (List SCart × List Int) × Int := ((y.2.1.1, y.2.2.2.1), (y.1.2.2.2.1))
def impl_Round_11_b (n : Nat) {R : Type} (K : Ex → Sm.St T → Option R) (c : List SCart × List Int) (x : Int) (J : Int → Option R) : Option R :=
  impl_Round_L11 n (fun (y0 : Int) => K (.exit 4) (stOf (T := T) [3, 7, 10, 11] [24, 56, 3000000] [.one (.ptr 24 0 0), .one (.ptr 56 0 0), .one (.fn 124 [56, 24]), .one (.int .i64)] [.var [.arr 81], .var [.own 3000000 3 false], .arr 3 false] ((), (), (), y0, ()) ((c.1, ()), ((), ()), c.2, ()))) J x c.1 c.2
def impl_Round_11_sp (n : Nat) : LSpec T := mkSpec T ⟨[((.cell 56 0), 3000000, 3)], [3, 7, 10, 11], [24, 56, 3000000]⟩ impl_Round_11_sv impl_Round_11_so (List SCart × List Int) (Int) impl_Round_11_emb impl_Round_11_prj (impl_Round_11_b n)
noncomputable def impl_Round_11_c : Code := ((loopCodes impl_Round_code)[2]?).getD .skip
def impl_Round_18_sv : List Sv := [.one (.own 3000001 81 false), .one (.own 3000002 3 false), .one (.own 3000003 3 false), .one (.int .i64), .one (.int .i64)]
def impl_Round_18_so : List So := [.arr 81 false, .arr 3 false, .arr 3 false]
def impl_Round_18_emb (c : Int × List Int) (x : Int × List SCart × List Int) : EVs T impl_Round_18_sv × EOs T impl_Round_18_so := (((), (), (), c.1, x.1, ()), (x.2.1, x.2.2, c.2, ()))
def impl_Round_18_prj (y : EVs T impl_Round_18_sv × EOs T impl_Round_18_so) : (Int × List Int) × (Int × List SCart × List Int) := ((y.1.2.2.2.1, y.2.2.2.1), (y.1.2.2.2.2.1, y.2.1, y.2.2.1))
def impl_Round_18_b (n : Nat) {R : Type} (K : Ex → Sm.St T → Option R) (c : Int × List Int) (x : Int × List SCart × List Int) (J : (Int × List SCart × List Int) → Option R) : Option R :=
  impl_Round_L18 n (fun (y0 : List SCart) (y1 : List Int) => K (.exit 6) (stOf (T := T) [12, 13] [3000001, 3000002] [.one (.own 3000001 81 false), .one (.own 3000002 3 false)] [.arr 81 false, .arr 3 false] ((), (), ()) (y0, y1, ()))) (fun z0 z1 z2 => J (z0, z1, z2)) c.1 x.1 x.2.1 x.2.2 c.2
def impl_Round_18_sp (n : Nat) : LSpec T := mkSpec T ⟨[((.reg 12), 3000001, 81), ((.reg 13), 3000002, 3), ((.reg 59), 3000003, 3)], [12, 13, 59, 60, 61], [3000001, 3000002, 3000003]⟩ impl_Round_18_sv impl_Round_18_so (Int × List Int) (Int × List SCart × List Int) impl_Round_18_emb impl_Round_18_prj (impl_Round_18_b n)
noncomputable def impl_Round_18_c : Code := ((loopCodes impl_Round_code)[3]?).getD .skip
def impl_Round_ann : Ann := fun id => bif Nat.beq id 3000005 then some ⟨[((.cell 56 0), 3000000, 3)], [3, 7], [24, 56, 3000000]⟩ else bif Nat.beq id 5000010 then some ⟨[((.cell 56 0), 3000000, 3)], [3, 7], [24, 56, 3000000]⟩ else bif Nat.beq id 7000011 then some ⟨[((.cell 56 0), 3000000, 3)], [3, 7, 10, 11], [24, 56, 3000000]⟩ else bif Nat.beq id 9000018 then some ⟨[((.reg 12), 3000001, 81), ((.reg 13), 3000002, 3)], [12, 13], [3000001, 3000002]⟩ else none
def impl_Round_Ls (n : Nat) : Nat → Option (LSpec T) := fun id => bif Nat.beq id 5 then some (impl_Round_5_sp n) else bif Nat.beq id 10 then some (impl_Round_10_sp n) else bif Nat.beq id 11 then some (impl_Round_11_sp n) else bif Nat.beq id 18 then some (impl_Round_18_sp n) else none
theorem impl_Round_5_le (n : Nat) : LoopEq (T := T) (Phi n 38) (impl_Round_Ls n) impl_Round_ann n impl_Round_5_c (impl_Round_5_sp n) := ⟨mkSpec_dec (fun y => rfl), fun c x => by kernel_rfl, fun K J c x => by kernel_rfl⟩
theorem impl_Round_10_le (n : Nat) : LoopEq (T := T) (Phi n 38) (impl_Round_Ls n) impl_Round_ann n impl_Round_10_c (impl_Round_10_sp n) := ⟨mkSpec_dec (fun y => rfl), fun c x => by kernel_rfl, fun K J c x => by kernel_rfl⟩
theorem impl_Round_11_le (n : Nat) : LoopEq (T := T) (Phi n 38) (impl_Round_Ls n) impl_Round_ann n impl_Round_11_c (impl_Round_11_sp n) := ⟨mkSpec_dec (fun y => rfl), fun c x => by kernel_rfl, fun K J c x => by kernel_rfl⟩
theorem impl_Round_18_le (n : Nat) : LoopEq (T := T) (Phi n 38) (impl_Round_Ls n) impl_Round_ann n impl_Round_18_c (impl_Round_18_sp n) := ⟨mkSpec_dec (fun y => rfl), fun c x => by kernel_rfl, fun K J c x => by kernel_rfl⟩
theorem impl_Round_tie (n : Nat) (f0 : SFloor) (carts1 : List SCart) : evF (T := T) (Phi n 38) (impl_Round_Ls n) impl_Round_ann n Try.f45 (sg 45) [vA T 71 f0, vA T 72 carts1] impl_Round_dec = impl_Round n f0 carts1 := by kernel_rfl
theorem impl_Round_lo (n : Nat) : LoopsOk (T := T) (Phi n 38) (impl_Round_Ls n) impl_Round_ann n impl_Round_code := loopsOk_all (cs := [impl_Round_5_c, impl_Round_10_c, impl_Round_11_c, impl_Round_18_c]) (by kernel_rfl) ⟨⟨_, by kernel_rfl, impl_Round_5_le n⟩, ⟨_, by kernel_rfl, impl_Round_10_le n⟩, ⟨_, by kernel_rfl, impl_Round_11_le n⟩, ⟨_, by kernel_rfl, impl_Round_18_le n⟩, trivial⟩
theorem impl_Round_ok (n : Nat) : EntOk Try.prog (ents n) (impl_Round_ent n) := by
  intro hs ar y hg h
  replace h : impl_Round_D n ar = some y := h
  unfold impl_Round_D at h
  replace h := ocons_some h
  obtain ⟨a0, r0, rfl, h⟩ := h
  replace h := ocons_some h
  obtain ⟨a1, r1, rfl, h⟩ := h
  replace h := onil_some h
  obtain ⟨rfl, h⟩ := h
  obtain ⟨f0, qh0, h⟩ := obind_some h
  obtain ⟨carts1, qh1, h⟩ := obind_some h
  rw [argV_eq ok qh0, argV_eq ok qh1]
  exact call_of (phiE_nat _ _) hs ok mixed Try.func45 (c := impl_Round_code) (by kernel_rfl) (impl_Round_lo n) (by kernel_rfl) (by kernel_rfl) (by kernel_rfl) impl_Round_de ((impl_Round_tie n f0 carts1).trans h)
noncomputable def slices_Index_int_int_code : Code := match Try.f167.body with | some c => c | none => .skip
def slices_Index_int_int_2_sv : List Sv := [.one (.arr 3), .one (.int .i64), .one (.int .i64), .one (.int .i64)]
def slices_Index_int_int_2_so : List So := []
def slices_Index_int_int_2_emb (c : List Int × Int × Int) (x : Int) : EVs T slices_Index_int_int_2_sv × EOs T slices_Index_int_int_2_so := ((c.1, c.2.1, c.2.2, x, ()), ())
def slices_Index_int_int_2_prj (y : EVs T slices_Index_int_int_2_sv × EOs T slices_Index_int_int_2_so) : (List Int × Int × Int) × Int := ((y.1.1, y.1.2.1, y.1.2.2.1), (y.1.2.2.2.1))
def slices_Index_int_int_2_b (n : Nat) {R : Type} (K : Ex → Sm.St T → Option R) (c : List Int × Int × Int) (x : Int) (J : Int → Option R) : Option R :=
  slices_Index_int_int_L2 n (K (.exit 0) (stOf (T := T) [] [] [] [] () ())) (fun (y0 : Int) => K .ret (stOf (T := T) [4] [] [.one (.int .i64)] [] (y0, ()) ())) J c.1 c.2.1 c.2.2 x
def slices_Index_int_int_2_sp (n : Nat) : LSpec T := mkSpec T ⟨[], [0, 1, 7, 8], []⟩ slices_Index_int_int_2_sv slices_Index_int_int_2_so (List Int × Int × Int) (Int) slices_Index_int_int_2_emb slices_Index_int_int_2_prj (slices_Index_int_int_2_b n)
noncomputable def slices_Index_int_int_2_c : Code := ((loopCodes slices_Index_int_int_code)[0]?).getD .skip
def slices_Index_int_int_ann : Ann := fun id => bif Nat.beq id 3000002 then some ⟨[], [], []⟩ else bif Nat.beq id 2000002 then some ⟨[], [4], []⟩ else none
def slices_Index_int_int_Ls (n : Nat) : Nat → Option (LSpec T) := fun id => bif Nat.beq id 2 then some (slices_Index_int_int_2_sp n) else none
theorem slices_Index_int_int_2_le (n : Nat) : LoopEq (T := T) (Phi n 39) (slices_Index_int_int_Ls n) slices_Index_int_int_ann n slices_Index_int_int_2_c (slices_Index_int_int_2_sp n) := ⟨mkSpec_dec (fun y => rfl), fun c x => by kernel_rfl, fun K J c x => by kernel_rfl⟩
theorem slices_Index_int_int_tie (n : Nat) (s0 : List Int) (v1 : Int) : evF (T := T) (Phi n 39) (slices_Index_int_int_Ls n) slices_Index_int_int_ann n Try.f167 (sg 167) [vA T 41 s0, vA T 3 v1] slices_Index_int_int_dec = slices_Index_int_int n s0 v1 := by kernel_rfl
theorem slices_Index_int_int_lo (n : Nat) : LoopsOk (T := T) (Phi n 39) (slices_Index_int_int_Ls n) slices_Index_int_int_ann n slices_Index_int_int_code := loopsOk_all (cs := [slices_Index_int_int_2_c]) (by kernel_rfl) ⟨⟨_, by kernel_rfl, slices_Index_int_int_2_le n⟩, trivial⟩
theorem slices_Index_int_int_ok (n : Nat) : EntOk Try.prog (ents n) (slices_Index_int_int_ent n) := by
  intro hs ar y hg h
  replace h : slices_Index_int_int_D n ar = some y := h
  unfold slices_Index_int_int_D at h
  replace h := ocons_some h
  obtain ⟨a0, r0, rfl, h⟩ := h
  replace h := ocons_some h
  obtain ⟨a1, r1, rfl, h⟩ := h
  replace h := onil_some h
  obtain ⟨rfl, h⟩ := h
  obtain ⟨s0, qh0, h⟩ := obind_some h
  obtain ⟨v1, qh1, h⟩ := obind_some h
  rw [argV_eq ok qh0, argV_eq ok qh1]
  exact call_of (phiE_nat _ _) hs ok mixed Try.func167 (c := slices_Index_int_int_code) (by kernel_rfl) (slices_Index_int_int_lo n) (by kernel_rfl) (by kernel_rfl) (by kernel_rfl) slices_Index_int_int_de ((slices_Index_int_int_tie n s0 v1).trans h)
noncomputable def slices_Contains_int_int_code : Code := match Try.f127.body with | some c => c | none => .skip
def slices_Contains_int_int_ann : Ann := fun id => none
def slices_Contains_int_int_Ls (n : Nat) : Nat → Option (LSpec T) := fun id => none
theorem slices_Contains_int_int_tie (n : Nat) (s0 : List Int) (v1 : Int) : evF (T := T) (Phi n 40) (slices_Contains_int_int_Ls n) slices_Contains_int_int_ann n Try.f127 (sg 127) [vA T 41 s0, vA T 3 v1] slices_Contains_int_int_dec = slices_Contains_int_int n s0 v1 := by kernel_rfl
theorem slices_Contains_int_int_lo (n : Nat) : LoopsOk (T := T) (Phi n 40) (slices_Contains_int_int_Ls n) slices_Contains_int_int_ann n slices_Contains_int_int_code := loopsOk_all (cs := []) (by kernel_rfl) trivial
theorem slices_Contains_int_int_ok (n : Nat) : EntOk Try.prog (ents n) (slices_Contains_int_int_ent n) := by
  intro hs ar y hg h
  replace h : slices_Contains_int_int_D n ar = some y := h
  unfold slices_Contains_int_int_D at h
  replace h := ocons_some h
  obtain ⟨a0, r0, rfl, h⟩ := h
  replace h := ocons_some h
  obtain ⟨a1, r1, rfl, h⟩ := h
  replace h := onil_some h
  obtain ⟨rfl, h⟩ := h
  obtain ⟨s0, qh0, h⟩ := obind_some h
  obtain ⟨v1, qh1, h⟩ := obind_some h
  rw [argV_eq ok qh0, argV_eq ok qh1]
  exact call_of (phiE_nat _ _) hs ok mixed Try.func127 (c := slices_Contains_int_int_code) (by kernel_rfl) (slices_Contains_int_int_lo n) (by kernel_rfl) (by kernel_rfl) (by kernel_rfl) slices_Contains_int_int_de ((slices_Contains_int_int_tie n s0 v1).trans h)
noncomputable def impl_Stuck_code : Code := match Try.f46.body with | some c => c | none => .skip
def impl_Stuck_6_sv : List Sv := [.one (.ptr 16 0 0), .one (.own 3000000 3 false), .one (.own 3000001 3 false), .one (.arr 81), .one (.int .i64), .one (.int .i64)]
def impl_Stuck_6_so : List So := [.var [.int .i64, .int .i64, .arr 3], .arr 3 false, .arr 3 false]
def impl_Stuck_6_emb (c : List SCart × Int × SFloor × List Int) (x : Int × List Int) : EVs T impl_Stuck_6_sv × EOs T impl_Stuck_6_so := (((), (), (), c.1, c.2.1, x.1, ()), ((c.2.2.1.Wide, c.2.2.1.High, c.2.2.1.Ways, ()), c.2.2.2, x.2, ()))
def impl_Stuck_6_prj (y : EVs T impl_Stuck_6_sv × EOs T impl_Stuck_6_so) : (List SCart × Int × SFloor × List Int) × (Int × List Int) := ((y.1.2.2.2.1, y.1.2.2.2.2.1, ((⟨y.2.1.1, y.2.1.2.1, y.2.1.2.2.1⟩ : SFloor) : SFloor), y.2.2.1), (y.1.2.2.2.2.2.1, y.2.2.2.1))
def impl_Stuck_6_b (n : Nat) {R : Type} (K : Ex → Sm.St T → Option R) (c : List SCart × Int × SFloor × List Int) (x : Int × List Int) (J : (Int × List Int) → Option R) : Option R :=
  impl_Stuck_L6 n (fun (y0 : List Int) => K (.exit 0) (stOf (T := T) [9] [3000001] [.one (.own 3000001 3 false)] [.arr 3 false] ((), ()) (y0, ()))) (fun z0 z1 => J (z0, z1)) c.1 c.2.1 x.1 c.2.2.1 c.2.2.2 x.2
def impl_Stuck_6_sp (n : Nat) : LSpec T := mkSpec T ⟨[((.reg 7), 3000000, 3), ((.reg 9), 3000001, 3)], [2, 7, 9, 23, 24, 25], [16, 3000000, 3000001]⟩ impl_Stuck_6_sv impl_Stuck_6_so (List SCart × Int × SFloor × List Int) (Int × List Int) impl_Stuck_6_emb impl_Stuck_6_prj (impl_Stuck_6_b n)
noncomputable def impl_Stuck_6_c : Code := ((loopCodes impl_Stuck_code)[0]?).getD .skip
def impl_Stuck_ann : Ann := fun id => bif Nat.beq id 3000006 then some ⟨[((.reg 9), 3000001, 3)], [9], [3000001]⟩ else none
def impl_Stuck_Ls (n : Nat) : Nat → Option (LSpec T) := fun id => bif Nat.beq id 6 then some (impl_Stuck_6_sp n) else none
theorem impl_Stuck_6_le (n : Nat) : LoopEq (T := T) (Phi n 41) (impl_Stuck_Ls n) impl_Stuck_ann n impl_Stuck_6_c (impl_Stuck_6_sp n) := ⟨mkSpec_dec (fun y => rfl), fun c x => by kernel_rfl, fun K J c x => by kernel_rfl⟩
theorem impl_Stuck_tie (n : Nat) (f0 : SFloor) (carts1 : List SCart) : evF (T := T) (Phi n 41) (impl_Stuck_Ls n) impl_Stuck_ann n Try.f46 (sg 46) [vA T 71 f0, vA T 72 carts1] impl_Stuck_dec = impl_Stuck n f0 carts1 := by kernel_rfl
theorem impl_Stuck_lo (n : Nat) : LoopsOk (T := T) (Phi n 41) (impl_Stuck_Ls n) impl_Stuck_ann n impl_Stuck_code := loopsOk_all (cs := [impl_Stuck_6_c]) (by kernel_rfl) ⟨⟨_, by kernel_rfl, impl_Stuck_6_le n⟩, trivial⟩
theorem impl_Stuck_ok (n : Nat) : EntOk Try.prog (ents n) (impl_Stuck_ent n) := by
  intro hs ar y hg h
  replace h : impl_Stuck_D n ar = some y := h
  unfold impl_Stuck_D at h
  replace h := ocons_some h
  obtain ⟨a0, r0, rfl, h⟩ := h
  replace h := ocons_some h
  obtain ⟨a1, r1, rfl, h⟩ := h
  replace h := onil_some h
  obtain ⟨rfl, h⟩ := h
  obtain ⟨f0, qh0, h⟩ := obind_some h
  obtain ⟨carts1, qh1, h⟩ := obind_some h
  rw [argV_eq ok qh0, argV_eq ok qh1]
  exact call_of (phiE_nat _ _) hs ok mixed Try.func46 (c := impl_Stuck_code) (by kernel_rfl) (impl_Stuck_lo n) (by kernel_rfl) (by kernel_rfl) (by kernel_rfl) impl_Stuck_de ((impl_Stuck_tie n f0 carts1).trans h)
noncomputable def laws_eqIntS_code : Code := match Try.f56.body with | some c => c | none => .skip
def laws_eqIntS_4_sv : List Sv := [.one (.arr 3), .one (.arr 3), .one (.int .i64)]
def laws_eqIntS_4_so : List So := []
def laws_eqIntS_4_emb (c : List Int × List Int) (x : Int) : EVs T laws_eqIntS_4_sv × EOs T laws_eqIntS_4_so := ((c.1, c.2, x, ()), ())
def laws_eqIntS_4_prj (y : EVs T laws_eqIntS_4_sv × EOs T laws_eqIntS_4_so) : (List Int × List Int) × Int := ((y.1.1, y.1.2.1), (y.1.2.2.1))
def laws_eqIntS_4_b (n : Nat) {R : Type} (K : Ex → Sm.St T → Option R) (c : List Int × List Int) (x : Int) (J : Int → Option R) : Option R :=
  laws_eqIntS_L4 n (K (.exit 0) (stOf (T := T) [] [] [] [] () ())) (fun (y0 : Bool) => K .ret (stOf (T := T) [4] [] [.one (.bool)] [] (y0, ()) ())) J c.1 c.2 x
def laws_eqIntS_4_sp (n : Nat) : LSpec T := mkSpec T ⟨[], [0, 1, 5], []⟩ laws_eqIntS_4_sv laws_eqIntS_4_so (List Int × List Int) (Int) laws_eqIntS_4_emb laws_eqIntS_4_prj (laws_eqIntS_4_b n)
noncomputable def laws_eqIntS_4_c : Code := ((loopCodes laws_eqIntS_code)[0]?).getD .skip
def laws_eqIntS_ann : Ann := fun id => bif Nat.beq id 3000004 then some ⟨[], [], []⟩ else bif Nat.beq id 2000004 then some ⟨[], [4], []⟩ else none
def laws_eqIntS_Ls (n : Nat) : Nat → Option (LSpec T) := fun id => bif Nat.beq id 4 then some (laws_eqIntS_4_sp n) else none
theorem laws_eqIntS_4_le (n : Nat) : LoopEq (T := T) (Phi n 42) (laws_eqIntS_Ls n) laws_eqIntS_ann n laws_eqIntS_4_c (laws_eqIntS_4_sp n) := ⟨mkSpec_dec (fun y => rfl), fun c x => by kernel_rfl, fun K J c x => by kernel_rfl⟩
theorem laws_eqIntS_tie (n : Nat) (a0 : List Int) (b1 : List Int) : evF (T := T) (Phi n 42) (laws_eqIntS_Ls n) laws_eqIntS_ann n Try.f56 (sg 56) [vA T 41 a0, vA T 41 b1] laws_eqIntS_dec = laws_eqIntS n a0 b1 := by kernel_rfl
theorem laws_eqIntS_lo (n : Nat) : LoopsOk (T := T) (Phi n 42) (laws_eqIntS_Ls n) laws_eqIntS_ann n laws_eqIntS_code := loopsOk_all (cs := [laws_eqIntS_4_c]) (by kernel_rfl) ⟨⟨_, by kernel_rfl, laws_eqIntS_4_le n⟩, trivial⟩
theorem laws_eqIntS_ok (n : Nat) : EntOk Try.prog (ents n) (laws_eqIntS_ent n) := by
  intro hs ar y hg h
  replace h : laws_eqIntS_D n ar = some y := h
  unfold laws_eqIntS_D at h
  replace h := ocons_some h
  obtain ⟨a0, r0, rfl, h⟩ := h
  replace h := ocons_some h
  obtain ⟨a1, r1, rfl, h⟩ := h
  replace h := onil_some h
  obtain ⟨rfl, h⟩ := h
  obtain ⟨a0, qh0, h⟩ := obind_some h
  obtain ⟨b1, qh1, h⟩ := obind_some h
  rw [argV_eq ok qh0, argV_eq ok qh1]
  exact call_of (phiE_nat _ _) hs ok mixed Try.func56 (c := laws_eqIntS_code) (by kernel_rfl) (laws_eqIntS_lo n) (by kernel_rfl) (by kernel_rfl) (by kernel_rfl) laws_eqIntS_de ((laws_eqIntS_tie n a0 b1).trans h)
noncomputable def laws_eqFloor_code : Code := match Try.f57.body with | some c => c | none => .skip
def laws_eqFloor_ann : Ann := fun id => none
def laws_eqFloor_Ls (n : Nat) : Nat → Option (LSpec T) := fun id => none
theorem laws_eqFloor_tie (n : Nat) (a0 : SFloor) (b1 : SFloor) : evF (T := T) (Phi n 43) (laws_eqFloor_Ls n) laws_eqFloor_ann n Try.f57 (sg 57) [vA T 71 a0, vA T 71 b1] laws_eqFloor_dec = laws_eqFloor n a0 b1 := by kernel_rfl
theorem laws_eqFloor_lo (n : Nat) : LoopsOk (T := T) (Phi n 43) (laws_eqFloor_Ls n) laws_eqFloor_ann n laws_eqFloor_code := loopsOk_all (cs := []) (by kernel_rfl) trivial
theorem laws_eqFloor_ok (n : Nat) : EntOk Try.prog (ents n) (laws_eqFloor_ent n) := by
  intro hs ar y hg h
  replace h : laws_eqFloor_D n ar = some y := h
  unfold laws_eqFloor_D at h
  replace h := ocons_some h
  obtain ⟨a0, r0, rfl, h⟩ := h
  replace h := ocons_some h
  obtain ⟨a1, r1, rfl, h⟩ := h
  replace h := onil_some h
  obtain ⟨rfl, h⟩ := h
  obtain ⟨a0, qh0, h⟩ := obind_some h
  obtain ⟨b1, qh1, h⟩ := obind_some h
  rw [argV_eq ok qh0, argV_eq ok qh1]
  exact call_of (phiE_nat _ _) hs ok mixed Try.func57 (c := laws_eqFloor_code) (by kernel_rfl) (laws_eqFloor_lo n) (by kernel_rfl) (by kernel_rfl) (by kernel_rfl) laws_eqFloor_de ((laws_eqFloor_tie n a0 b1).trans h)
noncomputable def laws_eqCart_code : Code := match Try.f137.body with | some c => c | none => .skip
def laws_eqCart_ann : Ann := fun id => none
def laws_eqCart_Ls (n : Nat) : Nat → Option (LSpec T) := fun id => none
theorem laws_eqCart_tie (n : Nat) (a0 : SCart) (b1 : SCart) : evF (T := T) (Phi n 44) (laws_eqCart_Ls n) laws_eqCart_ann n Try.f137 (sg 137) [vA T 81 a0, vA T 81 b1] laws_eqCart_dec = laws_eqCart n a0 b1 := by kernel_rfl
theorem laws_eqCart_lo (n : Nat) : LoopsOk (T := T) (Phi n 44) (laws_eqCart_Ls n) laws_eqCart_ann n laws_eqCart_code := loopsOk_all (cs := []) (by kernel_rfl) trivial
theorem laws_eqCart_ok (n : Nat) : EntOk Try.prog (ents n) (laws_eqCart_ent n) := by
  intro hs ar y hg h
  replace h : laws_eqCart_D n ar = some y := h
  unfold laws_eqCart_D at h
  replace h := ocons_some h
  obtain ⟨a0, r0, rfl, h⟩ := h
  replace h := ocons_some h
  obtain ⟨a1, r1, rfl, h⟩ := h
  replace h := onil_some h
  obtain ⟨rfl, h⟩ := h
  obtain ⟨a0, qh0, h⟩ := obind_some h
  obtain ⟨b1, qh1, h⟩ := obind_some h
  rw [argV_eq ok qh0, argV_eq ok qh1]
  exact call_of (phiE_nat _ _) hs ok mixed Try.func137 (c := laws_eqCart_code) (by kernel_rfl) (laws_eqCart_lo n) (by kernel_rfl) (by kernel_rfl) (by kernel_rfl) laws_eqCart_de ((laws_eqCart_tie n a0 b1).trans h)
noncomputable def laws_eqCartS_code : Code := match Try.f55.body with | some c => c | none => .skip
def laws_eqCartS_4_sv : List Sv := [.one (.arr 81), .one (.arr 81), .one (.int .i64)]
def laws_eqCartS_4_so : List So := []
def laws_eqCartS_4_emb (c : List SCart × List SCart) (x : Int) : EVs T laws_eqCartS_4_sv × EOs T laws_eqCartS_4_so := ((c.1, c.2, x, ()), ())
def laws_eqCartS_4_prj (y : EVs T laws_eqCartS_4_sv × EOs T laws_eqCartS_4_so) : (List SCart × List SCart) × Int := ((y.1.1, y.1.2.1), (y.1.2.2.1))
def laws_eqCartS_4_b (n : Nat) {R : Type} (K : Ex → Sm.St T → Option R) (c : List SCart × List SCart) (x : Int) (J : Int → Option R) : Option R :=
  laws_eqCartS_L4 n (K (.exit 0) (stOf (T := T) [] [] [] [] () ())) (fun (y0 : Bool) => K .ret (stOf (T := T) [4] [] [.one (.bool)] [] (y0, ()) ())) J c.1 c.2 x
def laws_eqCartS_4_sp (n : Nat) : LSpec T := mkSpec T ⟨[], [0, 1, 5], []⟩ laws_eqCartS_4_sv laws_eqCartS_4_so (List SCart × List SCart) (Int) laws_eqCartS_4_emb laws_eqCartS_4_prj (laws_eqCartS_4_b n)
noncomputable def laws_eqCartS_4_c : Code := ((loopCodes laws_eqCartS_code)[0]?).getD .skip
def laws_eqCartS_ann : Ann := fun id => bif Nat.beq id 3000004 then some ⟨[], [], []⟩ else bif Nat.beq id 2000004 then some ⟨[], [4], []⟩ else none
def laws_eqCartS_Ls (n : Nat) : Nat → Option (LSpec T) := fun id => bif Nat.beq id 4 then some (laws_eqCartS_4_sp n) else none
theorem laws_eqCartS_4_le (n : Nat) : LoopEq (T := T) (Phi n 45) (laws_eqCartS_Ls n) laws_eqCartS_ann n laws_eqCartS_4_c (laws_eqCartS_4_sp n) := ⟨mkSpec_dec (fun y => rfl), fun c x => by kernel_rfl, fun K J c x => by kernel_rfl⟩
theorem laws_eqCartS_tie (n : Nat) (a0 : List SCart) (b1 : List SCart) : evF (T := T) (Phi n 45) (laws_eqCartS_Ls n) laws_eqCartS_ann n Try.f55 (sg 55) [vA T 72 a0, vA T 72 b1] laws_eqCartS_dec = laws_eqCartS n a0 b1 := by kernel_rfl
theorem laws_eqCartS_lo (n : Nat) : LoopsOk (T := T) (Phi n 45) (laws_eqCartS_Ls n) laws_eqCartS_ann n laws_eqCartS_code := loopsOk_all (cs := [laws_eqCartS_4_c]) (by kernel_rfl) ⟨⟨_, by kernel_rfl, laws_eqCartS_4_le n⟩, trivial⟩
theorem laws_eqCartS_ok (n : Nat) : EntOk Try.prog (ents n) (laws_eqCartS_ent n) := by
  intro hs ar y hg h
  replace h : laws_eqCartS_D n ar = some y := h
  unfold laws_eqCartS_D at h
  replace h := ocons_some h
  obtain ⟨a0, r0, rfl, h⟩ := h
  replace h := ocons_some h
  obtain ⟨a1, r1, rfl, h⟩ := h
  replace h := onil_some h
  obtain ⟨rfl, h⟩ := h
  obtain ⟨a0, qh0, h⟩ := obind_some h
  obtain ⟨b1, qh1, h⟩ := obind_some h
  rw [argV_eq ok qh0, argV_eq ok qh1]
  exact call_of (phiE_nat _ _) hs ok mixed Try.func55 (c := laws_eqCartS_code) (by kernel_rfl) (laws_eqCartS_lo n) (by kernel_rfl) (by kernel_rfl) (by kernel_rfl) laws_eqCartS_de ((laws_eqCartS_tie n a0 b1).trans h)
noncomputable def laws_markIntS_code : Code := match Try.f60.body with | some c => c | none => .skip
def laws_markIntS_2_sv : List Sv := [.one (.own 4503599627370496 3 false), .one (.int .i64), .one (.int .i64)]
def laws_markIntS_2_so : List So := [.arr 3 true]
def laws_markIntS_2_emb (c : Unit) (x : Int × Int × List Int) : EVs T laws_markIntS_2_sv × EOs T laws_markIntS_2_so := (((), x.1, x.2.1, ()), (x.2.2, ()))
def laws_markIntS_2_prj (y : EVs T laws_markIntS_2_sv × EOs T laws_markIntS_2_so) : Unit × (Int × Int × List Int) := ((), (y.1.2.1, y.1.2.2.1, y.2.1))
def laws_markIntS_2_b (n : Nat) {R : Type} (K : Ex → Sm.St T → Option R) (c : Unit) (x : Int × Int × List Int) (J : (Int × Int × List Int) → Option R) : Option R :=
  laws_markIntS_L2 n (fun (y0 : Int) (y1 : List Int) => K (.exit 0) (stOf (T := T) [1] [4503599627370496] [.one (.int .i64)] [.arr 3 true] (y0, ()) (y1, ()))) (fun z0 z1 z2 => J (z0, z1, z2)) x.1 x.2.1 x.2.2
def laws_markIntS_2_sp (n : Nat) : LSpec T := mkSpec T ⟨[], [0, 1, 5], [4503599627370496]⟩ laws_markIntS_2_sv laws_markIntS_2_so (Unit) (Int × Int × List Int) laws_markIntS_2_emb laws_markIntS_2_prj (laws_markIntS_2_b n)
noncomputable def laws_markIntS_2_c : Code := ((loopCodes laws_markIntS_code)[0]?).getD .skip
def laws_markIntS_ann : Ann := fun id => bif Nat.beq id 3000002 then some ⟨[], [1], [4503599627370496]⟩ else none
def laws_markIntS_Ls (n : Nat) : Nat → Option (LSpec T) := fun id => bif Nat.beq id 2 then some (laws_markIntS_2_sp n) else none
theorem laws_markIntS_2_le (n : Nat) : LoopEq (T := T) (Phi n 46) (laws_markIntS_Ls n) laws_markIntS_ann n laws_markIntS_2_c (laws_markIntS_2_sp n) := ⟨mkSpec_dec (fun y => rfl), fun c x => by kernel_rfl, fun K J c x => by kernel_rfl⟩
theorem laws_markIntS_tie (n : Nat) (a0 : List Int) (k1 : Int) : evF (T := T) (Phi n 46) (laws_markIntS_Ls n) laws_markIntS_ann n Try.f60 (sg 60) [vA T 41 a0, vA T 3 k1] laws_markIntS_dec = laws_markIntS n a0 k1 := by kernel_rfl
theorem laws_markIntS_lo (n : Nat) : LoopsOk (T := T) (Phi n 46) (laws_markIntS_Ls n) laws_markIntS_ann n laws_markIntS_code := loopsOk_all (cs := [laws_markIntS_2_c]) (by kernel_rfl) ⟨⟨_, by kernel_rfl, laws_markIntS_2_le n⟩, trivial⟩
theorem laws_markIntS_ok (n : Nat) : EntOk Try.prog (ents n) (laws_markIntS_ent n) := by
  intro hs ar y hg h
  replace h : laws_markIntS_D n ar = some y := h
  unfold laws_markIntS_D at h
  replace h := ocons_some h
  obtain ⟨a0, r0, rfl, h⟩ := h
  replace h := ocons_some h
  obtain ⟨a1, r1, rfl, h⟩ := h
  replace h := onil_some h
  obtain ⟨rfl, h⟩ := h
  obtain ⟨a0, qh0, h⟩ := obind_some h
  obtain ⟨k1, qh1, h⟩ := obind_some h
  rw [argV_eq ok qh0, argV_eq ok qh1]
  exact call_of (phiE_nat _ _) hs ok mixed Try.func60 (c := laws_markIntS_code) (by kernel_rfl) (laws_markIntS_lo n) (by kernel_rfl) (by kernel_rfl) (by kernel_rfl) laws_markIntS_de ((laws_markIntS_tie n a0 k1).trans h)
noncomputable def laws_markFloor_code : Code := match Try.f58.body with | some c => c | none => .skip
def laws_markFloor_ann : Ann := fun id => none
def laws_markFloor_Ls (n : Nat) : Nat → Option (LSpec T) := fun id => none
theorem laws_markFloor_tie (n : Nat) (a0 : SFloor) (k1 : Int) : evF (T := T) (Phi n 47) (laws_markFloor_Ls n) laws_markFloor_ann n Try.f58 (sg 58) [vA T 71 a0, vA T 3 k1] laws_markFloor_dec = laws_markFloor n a0 k1 := by kernel_rfl
theorem laws_markFloor_lo (n : Nat) : LoopsOk (T := T) (Phi n 47) (laws_markFloor_Ls n) laws_markFloor_ann n laws_markFloor_code := loopsOk_all (cs := []) (by kernel_rfl) trivial
theorem laws_markFloor_ok (n : Nat) : EntOk Try.prog (ents n) (laws_markFloor_ent n) := by
  intro hs ar y hg h
  replace h : laws_markFloor_D n ar = some y := h
  unfold laws_markFloor_D at h
  replace h := ocons_some h
  obtain ⟨a0, r0, rfl, h⟩ := h
  replace h := ocons_some h
  obtain ⟨a1, r1, rfl, h⟩ := h
  replace h := onil_some h
  obtain ⟨rfl, h⟩ := h
  obtain ⟨a0, qh0, h⟩ := obind_some h
  obtain ⟨k1, qh1, h⟩ := obind_some h
  rw [argV_eq ok qh0, argV_eq ok qh1]
  exact call_of (phiE_nat _ _) hs ok mixed Try.func58 (c := laws_markFloor_code) (by kernel_rfl) (laws_markFloor_lo n) (by kernel_rfl) (by kernel_rfl) (by kernel_rfl) laws_markFloor_de ((laws_markFloor_tie n a0 k1).trans h)
noncomputable def laws_markCartS_code : Code := match Try.f59.body with | some c => c | none => .skip
def laws_markCartS_2_sv : List Sv := [.one (.own 4503599627370496 81 false), .one (.int .i64), .one (.int .i64)]
def laws_markCartS_2_so : List So := [.arr 81 true]
def laws_markCartS_2_emb (c : Unit) (x : Int × Int × List SCart) : EVs T laws_markCartS_2_sv × EOs T laws_markCartS_2_so := (((), x.1, x.2.1, ()), (x.2.2, ()))
def laws_markCartS_2_prj (y : EVs T laws_markCartS_2_sv × EOs T laws_markCartS_2_so) : Unit × (Int × Int × List SCart) := ((), (y.1.2.1, y.1.2.2.1, y.2.1))
def laws_markCartS_2_b (n : Nat) {R : Type} (K : Ex → Sm.St T → Option R) (c : Unit) (x : Int × Int × List SCart) (J : (Int × Int × List SCart) → Option R) : Option R :=
  laws_markCartS_L2 n (fun (y0 : Int) (y1 : List SCart) => K (.exit 0) (stOf (T := T) [1] [4503599627370496] [.one (.int .i64)] [.arr 81 true] (y0, ()) (y1, ()))) (fun z0 z1 z2 => J (z0, z1, z2)) x.1 x.2.1 x.2.2
def laws_markCartS_2_sp (n : Nat) : LSpec T := mkSpec T ⟨[], [0, 1, 5], [4503599627370496]⟩ laws_markCartS_2_sv laws_markCartS_2_so (Unit) (Int × Int × List SCart) laws_markCartS_2_emb laws_markCartS_2_prj (laws_markCartS_2_b n)
noncomputable def laws_markCartS_2_c : Code := ((loopCodes laws_markCartS_code)[0]?).getD .skip
def laws_markCartS_ann : Ann := fun id => bif Nat.beq id 3000002 then some ⟨[], [1], [4503599627370496]⟩ else none
def laws_markCartS_Ls (n : Nat) : Nat → Option (LSpec T) := fun id => bif Nat.beq id 2 then some (laws_markCartS_2_sp n) else none
theorem laws_markCartS_2_le (n : Nat) : LoopEq (T := T) (Phi n 48) (laws_markCartS_Ls n) laws_markCartS_ann n laws_markCartS_2_c (laws_markCartS_2_sp n) := ⟨mkSpec_dec (fun y => rfl), fun c x => by kernel_rfl, fun K J c x => by kernel_rfl⟩
theorem laws_markCartS_tie (n : Nat) (a0 : List SCart) (k1 : Int) : evF (T := T) (Phi n 48) (laws_markCartS_Ls n) laws_markCartS_ann n Try.f59 (sg 59) [vA T 72 a0, vA T 3 k1] laws_markCartS_dec = laws_markCartS n a0 k1 := by kernel_rfl
theorem laws_markCartS_lo (n : Nat) : LoopsOk (T := T) (Phi n 48) (laws_markCartS_Ls n) laws_markCartS_ann n laws_markCartS_code := loopsOk_all (cs := [laws_markCartS_2_c]) (by kernel_rfl) ⟨⟨_, by kernel_rfl, laws_markCartS_2_le n⟩, trivial⟩
theorem laws_markCartS_ok (n : Nat) : EntOk Try.prog (ents n) (laws_markCartS_ent n) := by
  intro hs ar y hg h
  replace h : laws_markCartS_D n ar = some y := h
  unfold laws_markCartS_D at h
  replace h := ocons_some h
  obtain ⟨a0, r0, rfl, h⟩ := h
  replace h := ocons_some h
  obtain ⟨a1, r1, rfl, h⟩ := h
  replace h := onil_some h
  obtain ⟨rfl, h⟩ := h
  obtain ⟨a0, qh0, h⟩ := obind_some h
  obtain ⟨k1, qh1, h⟩ := obind_some h
  rw [argV_eq ok qh0, argV_eq ok qh1]
  exact call_of (phiE_nat _ _) hs ok mixed Try.func59 (c := laws_markCartS_code) (by kernel_rfl) (laws_markCartS_lo n) (by kernel_rfl) (by kernel_rfl) (by kernel_rfl) laws_markCartS_de ((laws_markCartS_tie n a0 k1).trans h)
noncomputable def laws_heldIntS_code : Code := match Try.f62.body with | some c => c | none => .skip
def laws_heldIntS_2_sv : List Sv := [.one (.arr 3), .one (.int .i64), .one (.int .i64)]
def laws_heldIntS_2_so : List So := []
def laws_heldIntS_2_emb (c : List Int) (x : Int × Int) : EVs T laws_heldIntS_2_sv × EOs T laws_heldIntS_2_so := ((c, x.1, x.2, ()), ())
def laws_heldIntS_2_prj (y : EVs T laws_heldIntS_2_sv × EOs T laws_heldIntS_2_so) : List Int × (Int × Int) := ((y.1.1), (y.1.2.1, y.1.2.2.1))
def laws_heldIntS_2_b (n : Nat) {R : Type} (K : Ex → Sm.St T → Option R) (c : List Int) (x : Int × Int) (J : (Int × Int) → Option R) : Option R :=
  laws_heldIntS_L2 n (fun (y0 : Int) => K (.exit 0) (stOf (T := T) [1] [] [.one (.int .i64)] [] (y0, ()) ())) (fun (y0 : Int) => K .ret (stOf (T := T) [4] [] [.one (.int .i64)] [] (y0, ()) ())) (fun z0 z1 => J (z0, z1)) c x.1 x.2
def laws_heldIntS_2_sp (n : Nat) : LSpec T := mkSpec T ⟨[], [0, 1, 5], []⟩ laws_heldIntS_2_sv laws_heldIntS_2_so (List Int) (Int × Int) laws_heldIntS_2_emb laws_heldIntS_2_prj (laws_heldIntS_2_b n)
noncomputable def laws_heldIntS_2_c : Code := ((loopCodes laws_heldIntS_code)[0]?).getD .skip
def laws_heldIntS_ann : Ann := fun id => bif Nat.beq id 3000002 then some ⟨[], [1], []⟩ else bif Nat.beq id 2000002 then some ⟨[], [4], []⟩ else none
def laws_heldIntS_Ls (n : Nat) : Nat → Option (LSpec T) := fun id => bif Nat.beq id 2 then some (laws_heldIntS_2_sp n) else none
theorem laws_heldIntS_2_le (n : Nat) : LoopEq (T := T) (Phi n 49) (laws_heldIntS_Ls n) laws_heldIntS_ann n laws_heldIntS_2_c (laws_heldIntS_2_sp n) := ⟨mkSpec_dec (fun y => rfl), fun c x => by kernel_rfl, fun K J c x => by kernel_rfl⟩
theorem laws_heldIntS_tie (n : Nat) (a0 : List Int) (k1 : Int) : evF (T := T) (Phi n 49) (laws_heldIntS_Ls n) laws_heldIntS_ann n Try.f62 (sg 62) [vA T 41 a0, vA T 3 k1] laws_heldIntS_dec = laws_heldIntS n a0 k1 := by kernel_rfl
theorem laws_heldIntS_lo (n : Nat) : LoopsOk (T := T) (Phi n 49) (laws_heldIntS_Ls n) laws_heldIntS_ann n laws_heldIntS_code := loopsOk_all (cs := [laws_heldIntS_2_c]) (by kernel_rfl) ⟨⟨_, by kernel_rfl, laws_heldIntS_2_le n⟩, trivial⟩
theorem laws_heldIntS_ok (n : Nat) : EntOk Try.prog (ents n) (laws_heldIntS_ent n) := by
  intro hs ar y hg h
  replace h : laws_heldIntS_D n ar = some y := h
  unfold laws_heldIntS_D at h
  replace h := ocons_some h
  obtain ⟨a0, r0, rfl, h⟩ := h
  replace h := ocons_some h
  obtain ⟨a1, r1, rfl, h⟩ := h
  replace h := onil_some h
  obtain ⟨rfl, h⟩ := h
  obtain ⟨a0, qh0, h⟩ := obind_some h
  obtain ⟨k1, qh1, h⟩ := obind_some h
  rw [argV_eq ok qh0, argV_eq ok qh1]
  exact call_of (phiE_nat _ _) hs ok mixed Try.func62 (c := laws_heldIntS_code) (by kernel_rfl) (laws_heldIntS_lo n) (by kernel_rfl) (by kernel_rfl) (by kernel_rfl) laws_heldIntS_de ((laws_heldIntS_tie n a0 k1).trans h)
noncomputable def laws_FnExactStuck_code : Code := match Try.f11.body with | some c => c | none => .skip
def laws_FnExactStuck_ann : Ann := fun id => none
def laws_FnExactStuck_Ls (n : Nat) : Nat → Option (LSpec T) := fun id => none
theorem laws_FnExactStuck_tie (n : Nat) (aF0 : SFloor) (aCarts1 : List SCart) : evF (T := T) (Phi n 50) (laws_FnExactStuck_Ls n) laws_FnExactStuck_ann n Try.f11 (sg 11) [vA T 86 aF0, vA T 87 aCarts1] laws_FnExactStuck_dec = laws_FnExactStuck n aF0 aCarts1 := by kernel_rfl
theorem laws_FnExactStuck_lo (n : Nat) : LoopsOk (T := T) (Phi n 50) (laws_FnExactStuck_Ls n) laws_FnExactStuck_ann n laws_FnExactStuck_code := loopsOk_all (cs := []) (by kernel_rfl) trivial
theorem laws_FnExactStuck_ok (n : Nat) : EntOk Try.prog (ents n) (laws_FnExactStuck_ent n) := by
  intro hs ar y hg h
  replace h : laws_FnExactStuck_D n ar = some y := h
  unfold laws_FnExactStuck_D at h
  replace h := ocons_some h
  obtain ⟨a0, r0, rfl, h⟩ := h
  replace h := ocons_some h
  obtain ⟨a1, r1, rfl, h⟩ := h
  replace h := onil_some h
  obtain ⟨rfl, h⟩ := h
  obtain ⟨aF0, qh0, h⟩ := obind_some h
  obtain ⟨aCarts1, qh1, h⟩ := obind_some h
  rw [argV_eq ok qh0, argV_eq ok qh1]
  exact call_of (phiE_nat _ _) hs ok mixed Try.func11 (c := laws_FnExactStuck_code) (by kernel_rfl) (laws_FnExactStuck_lo n) (by kernel_rfl) (by kernel_rfl) (by kernel_rfl) laws_FnExactStuck_de ((laws_FnExactStuck_tie n aF0 aCarts1).trans h)
theorem entsOk (n : Nat) : EntsOk Try.prog (ents n) (ents n) := ⟨laws_szIntS_ok n, laws_szFloor_ok n, laws_szCartS_ok n, laws_toIntS_ok n, laws_toFloor_ok n, laws_toCart_ok n, laws_toCartS_ok n, spec_l1In_ok n, spec_l3All_ok n, spec_FloorOk_ok n, spec_CartsOk_ok n, spec_l19Next_ok n, spec_Hops_ok n, spec_l19Want_ok n, spec_l19Struck_ok n, spec_Round_ok n, spec_l9Has_ok n, spec_Stuck_ok n, impl_in_ok n, impl_all_1_ok n, slices_IndexFunc_int_int__impl_all_1_ok n, slices_ContainsFunc_int_int__impl_all_1_ok n, impl_all_ok n, impl_FloorOk_ok n, impl_Floor_place_ok n, impl_CartsOk_1_ok n, slices_IndexFunc_impl_Cart_impl_Cart__impl_CartsOk_1_ok n, slices_ContainsFunc_impl_Cart_impl_Cart__impl_CartsOk_1_ok n, impl_CartsOk_ok n, impl_Floor_leads_ok n, impl_Hops_1_ok n, slices_IndexFunc_int_int__impl_Hops_1_ok n, slices_ContainsFunc_int_int__impl_Hops_1_ok n, impl_Hops_ok n, impl_Floor_want_ok n, impl_Round_1_ok n, impl_own_impl_Cart_ok n, impl_own_int_ok n, impl_Round_ok n, slices_Index_int_int_ok n, slices_Contains_int_int_ok n, impl_Stuck_ok n, laws_eqIntS_ok n, laws_eqFloor_ok n, laws_eqCart_ok n, laws_eqCartS_ok n, laws_markIntS_ok n, laws_markFloor_ok n, laws_markCartS_ok n, laws_heldIntS_ok n, laws_FnExactStuck_ok n, trivial⟩
theorem sem (n i : Nat) : SemOk (Phi n i) (CallOk Try.prog T) := phiE_ok (entsOk n) i
end Go.Sm.C11
