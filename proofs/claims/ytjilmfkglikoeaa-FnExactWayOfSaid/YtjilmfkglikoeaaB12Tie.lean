import Derived.Test.YtjilmfkglikoeaaB12Tb
import Derived.KernelRfl
/- Each function's code computes what the plain function computes. -/
set_option linter.unusedSimpArgs false
set_option linter.deprecated false
set_option linter.unusedSectionVars false
set_option linter.unusedVariables false
set_option maxRecDepth 100000
open Go Go.Proofs
noncomputable section
namespace Go.Sm.B12
/-- By recursors, and of a greater height than all of the functions: the kernel takes these apart first. -/
def obind {α β : Type} (o : Option α) (f : α → Option β) : Option β := let _ := @laws_FnExactWayOf; Option.rec (motive := fun _ => Option β) none (fun a => f a) o
theorem obind_some {α β : Type} {o : Option α} {f : α → Option β} {y : β} (h : obind o f = some y) : ∃ a, o = some a ∧ f a = some y := by
  cases o with
  | none => cases h
  | some a => exact ⟨a, rfl, h⟩
def ocons {β : Type} (l : List (A T)) (f : A T → List (A T) → Option β) : Option β := let _ := @laws_FnExactWayOf; List.rec (motive := fun _ => Option β) none (fun a r _ => f a r) l
theorem ocons_some {β : Type} {l : List (A T)} {f : A T → List (A T) → Option β} {y : β} (h : ocons l f = some y) : ∃ a r, l = a :: r ∧ f a r = some y := by
  cases l with
  | nil => cases h
  | cons a r => exact ⟨a, r, rfl, h⟩
def onil {β : Type} (l : List (A T)) (x : Option β) : Option β := let _ := @laws_FnExactWayOf; List.rec (motive := fun _ => Option β) x (fun _ _ _ => none) l
theorem onil_some {β : Type} {l : List (A T)} {x : Option β} {y : β} (h : onil l x = some y) : l = [] ∧ x = some y := by
  cases l with
  | nil => exact ⟨rfl, h⟩
  | cons a r => cases h
def laws_szIntS_dec (res : Res T) : Option Int := match res.rets, res.outs with
  | [a0], [] => (retV (T := T) 3 a0).bind fun r0 => some (r0)
  | _, _ => none
def laws_szIntS_enc (y : Int) : Res T := ⟨[vR T 3 y], []⟩
theorem laws_szIntS_de (res : Res T) (y : Int) (h : laws_szIntS_dec res = some y) : res = laws_szIntS_enc y := by
  obtain ⟨rets, outs⟩ := res
  unfold laws_szIntS_dec at h
  dsimp only at h
  split at h
  · obtain ⟨r0, h0, h⟩ := Option.bind_eq_some_iff.1 h
    cases h
    rw [retV_eq ok h0]
    rfl
  · cases h
def laws_szClosedS_dec (res : Res T) : Option Int := match res.rets, res.outs with
  | [a0], [] => (retV (T := T) 3 a0).bind fun r0 => some (r0)
  | _, _ => none
def laws_szClosedS_enc (y : Int) : Res T := ⟨[vR T 3 y], []⟩
theorem laws_szClosedS_de (res : Res T) (y : Int) (h : laws_szClosedS_dec res = some y) : res = laws_szClosedS_enc y := by
  obtain ⟨rets, outs⟩ := res
  unfold laws_szClosedS_dec at h
  dsimp only at h
  split at h
  · obtain ⟨r0, h0, h⟩ := Option.bind_eq_some_iff.1 h
    cases h
    rw [retV_eq ok h0]
    rfl
  · cases h
def laws_szSea_dec (res : Res T) : Option Int := match res.rets, res.outs with
  | [a0], [] => (retV (T := T) 3 a0).bind fun r0 => some (r0)
  | _, _ => none
def laws_szSea_enc (y : Int) : Res T := ⟨[vR T 3 y], []⟩
theorem laws_szSea_de (res : Res T) (y : Int) (h : laws_szSea_dec res = some y) : res = laws_szSea_enc y := by
  obtain ⟨rets, outs⟩ := res
  unfold laws_szSea_dec at h
  dsimp only at h
  split at h
  · obtain ⟨r0, h0, h⟩ := Option.bind_eq_some_iff.1 h
    cases h
    rw [retV_eq ok h0]
    rfl
  · cases h
def laws_toIntS_dec (res : Res T) : Option (List Int) := match res.rets, res.outs with
  | [a0], [] => (retV (T := T) 55 a0).bind fun r0 => some (r0)
  | _, _ => none
def laws_toIntS_enc (y : List Int) : Res T := ⟨[vR T 55 y], []⟩
theorem laws_toIntS_de (res : Res T) (y : List Int) (h : laws_toIntS_dec res = some y) : res = laws_toIntS_enc y := by
  obtain ⟨rets, outs⟩ := res
  unfold laws_toIntS_dec at h
  dsimp only at h
  split at h
  · obtain ⟨r0, h0, h⟩ := Option.bind_eq_some_iff.1 h
    cases h
    rw [retV_eq ok h0]
    rfl
  · cases h
def laws_toClosed_dec (res : Res T) : Option SClosed := match res.rets, res.outs with
  | [a0], [] => (retV (T := T) 206 a0).bind fun r0 => some (r0)
  | _, _ => none
def laws_toClosed_enc (y : SClosed) : Res T := ⟨[vR T 206 y], []⟩
theorem laws_toClosed_de (res : Res T) (y : SClosed) (h : laws_toClosed_dec res = some y) : res = laws_toClosed_enc y := by
  obtain ⟨rets, outs⟩ := res
  unfold laws_toClosed_dec at h
  dsimp only at h
  split at h
  · obtain ⟨r0, h0, h⟩ := Option.bind_eq_some_iff.1 h
    cases h
    rw [retV_eq ok h0]
    rfl
  · cases h
def laws_toClosedS_dec (res : Res T) : Option (List SClosed) := match res.rets, res.outs with
  | [a0], [] => (retV (T := T) 101 a0).bind fun r0 => some (r0)
  | _, _ => none
def laws_toClosedS_enc (y : List SClosed) : Res T := ⟨[vR T 101 y], []⟩
theorem laws_toClosedS_de (res : Res T) (y : List SClosed) (h : laws_toClosedS_dec res = some y) : res = laws_toClosedS_enc y := by
  obtain ⟨rets, outs⟩ := res
  unfold laws_toClosedS_dec at h
  dsimp only at h
  split at h
  · obtain ⟨r0, h0, h⟩ := Option.bind_eq_some_iff.1 h
    cases h
    rw [retV_eq ok h0]
    rfl
  · cases h
def laws_toSea_dec (res : Res T) : Option SSea := match res.rets, res.outs with
  | [a0], [] => (retV (T := T) 103 a0).bind fun r0 => some (r0)
  | _, _ => none
def laws_toSea_enc (y : SSea) : Res T := ⟨[vR T 103 y], []⟩
theorem laws_toSea_de (res : Res T) (y : SSea) (h : laws_toSea_dec res = some y) : res = laws_toSea_enc y := by
  obtain ⟨rets, outs⟩ := res
  unfold laws_toSea_dec at h
  dsimp only at h
  split at h
  · obtain ⟨r0, h0, h⟩ := Option.bind_eq_some_iff.1 h
    cases h
    rw [retV_eq ok h0]
    rfl
  · cases h
def spec_l1In_dec (res : Res T) : Option Bool := match res.rets, res.outs with
  | [a0], [] => (retV (T := T) 4 a0).bind fun r0 => some (r0)
  | _, _ => none
def spec_l1In_enc (y : Bool) : Res T := ⟨[vR T 4 y], []⟩
theorem spec_l1In_de (res : Res T) (y : Bool) (h : spec_l1In_dec res = some y) : res = spec_l1In_enc y := by
  obtain ⟨rets, outs⟩ := res
  unfold spec_l1In_dec at h
  dsimp only at h
  split at h
  · obtain ⟨r0, h0, h⟩ := Option.bind_eq_some_iff.1 h
    cases h
    rw [retV_eq ok h0]
    rfl
  · cases h
def spec_l3All_dec (res : Res T) : Option Bool := match res.rets, res.outs with
  | [a0], [] => (retV (T := T) 4 a0).bind fun r0 => some (r0)
  | _, _ => none
def spec_l3All_enc (y : Bool) : Res T := ⟨[vR T 4 y], []⟩
theorem spec_l3All_de (res : Res T) (y : Bool) (h : spec_l3All_dec res = some y) : res = spec_l3All_enc y := by
  obtain ⟨rets, outs⟩ := res
  unfold spec_l3All_dec at h
  dsimp only at h
  split at h
  · obtain ⟨r0, h0, h⟩ := Option.bind_eq_some_iff.1 h
    cases h
    rw [retV_eq ok h0]
    rfl
  · cases h
def spec_SeaOk_dec (res : Res T) : Option Bool := match res.rets, res.outs with
  | [a0], [] => (retV (T := T) 4 a0).bind fun r0 => some (r0)
  | _, _ => none
def spec_SeaOk_enc (y : Bool) : Res T := ⟨[vR T 4 y], []⟩
theorem spec_SeaOk_de (res : Res T) (y : Bool) (h : spec_SeaOk_dec res = some y) : res = spec_SeaOk_enc y := by
  obtain ⟨rets, outs⟩ := res
  unfold spec_SeaOk_dec at h
  dsimp only at h
  split at h
  · obtain ⟨r0, h0, h⟩ := Option.bind_eq_some_iff.1 h
    cases h
    rw [retV_eq ok h0]
    rfl
  · cases h
def spec_l7Place_dec (res : Res T) : Option Bool := match res.rets, res.outs with
  | [a0], [] => (retV (T := T) 4 a0).bind fun r0 => some (r0)
  | _, _ => none
def spec_l7Place_enc (y : Bool) : Res T := ⟨[vR T 4 y], []⟩
theorem spec_l7Place_de (res : Res T) (y : Bool) (h : spec_l7Place_dec res = some y) : res = spec_l7Place_enc y := by
  obtain ⟨rets, outs⟩ := res
  unfold spec_l7Place_dec at h
  dsimp only at h
  split at h
  · obtain ⟨r0, h0, h⟩ := Option.bind_eq_some_iff.1 h
    cases h
    rw [retV_eq ok h0]
    rfl
  · cases h
def spec_l7Next_dec (res : Res T) : Option Bool := match res.rets, res.outs with
  | [a0], [] => (retV (T := T) 4 a0).bind fun r0 => some (r0)
  | _, _ => none
def spec_l7Next_enc (y : Bool) : Res T := ⟨[vR T 4 y], []⟩
theorem spec_l7Next_de (res : Res T) (y : Bool) (h : spec_l7Next_dec res = some y) : res = spec_l7Next_enc y := by
  obtain ⟨rets, outs⟩ := res
  unfold spec_l7Next_dec at h
  dsimp only at h
  split at h
  · obtain ⟨r0, h0, h⟩ := Option.bind_eq_some_iff.1 h
    cases h
    rw [retV_eq ok h0]
    rfl
  · cases h
def spec_Cheapest_dec (res : Res T) : Option (List Int × Bool) := match res.rets, res.outs with
  | [a0, a1], [] => (retV (T := T) 55 a0).bind fun r0 => (retV (T := T) 4 a1).bind fun r1 => some (r0, r1)
  | _, _ => none
def spec_Cheapest_enc (y : List Int × Bool) : Res T := ⟨[vR T 55 y.1, vR T 4 y.2], []⟩
theorem spec_Cheapest_de (res : Res T) (y : List Int × Bool) (h : spec_Cheapest_dec res = some y) : res = spec_Cheapest_enc y := by
  obtain ⟨rets, outs⟩ := res
  unfold spec_Cheapest_dec at h
  dsimp only at h
  split at h
  · obtain ⟨r0, h0, h⟩ := Option.bind_eq_some_iff.1 h
    obtain ⟨r1, h1, h⟩ := Option.bind_eq_some_iff.1 h
    cases h
    rw [retV_eq ok h0, retV_eq ok h1]
    rfl
  · cases h
def spec_WayOf_dec (res : Res T) : Option (List Int × Bool) := match res.rets, res.outs with
  | [a0, a1], [] => (retV (T := T) 55 a0).bind fun r0 => (retV (T := T) 4 a1).bind fun r1 => some (r0, r1)
  | _, _ => none
def spec_WayOf_enc (y : List Int × Bool) : Res T := ⟨[vR T 55 y.1, vR T 4 y.2], []⟩
theorem spec_WayOf_de (res : Res T) (y : List Int × Bool) (h : spec_WayOf_dec res = some y) : res = spec_WayOf_enc y := by
  obtain ⟨rets, outs⟩ := res
  unfold spec_WayOf_dec at h
  dsimp only at h
  split at h
  · obtain ⟨r0, h0, h⟩ := Option.bind_eq_some_iff.1 h
    obtain ⟨r1, h1, h⟩ := Option.bind_eq_some_iff.1 h
    cases h
    rw [retV_eq ok h0, retV_eq ok h1]
    rfl
  · cases h
def impl_in_dec (res : Res T) : Option Bool := match res.rets, res.outs with
  | [a0], [] => (retV (T := T) 4 a0).bind fun r0 => some (r0)
  | _, _ => none
def impl_in_enc (y : Bool) : Res T := ⟨[vR T 4 y], []⟩
theorem impl_in_de (res : Res T) (y : Bool) (h : impl_in_dec res = some y) : res = impl_in_enc y := by
  obtain ⟨rets, outs⟩ := res
  unfold impl_in_dec at h
  dsimp only at h
  split at h
  · obtain ⟨r0, h0, h⟩ := Option.bind_eq_some_iff.1 h
    cases h
    rw [retV_eq ok h0]
    rfl
  · cases h
def impl_all_1_dec (res : Res T) : Option Bool := match res.rets, res.outs with
  | [a0], [] => (retV (T := T) 4 a0).bind fun r0 => some (r0)
  | _, _ => none
def impl_all_1_enc (y : Bool) : Res T := ⟨[vR T 4 y], []⟩
theorem impl_all_1_de (res : Res T) (y : Bool) (h : impl_all_1_dec res = some y) : res = impl_all_1_enc y := by
  obtain ⟨rets, outs⟩ := res
  unfold impl_all_1_dec at h
  dsimp only at h
  split at h
  · obtain ⟨r0, h0, h⟩ := Option.bind_eq_some_iff.1 h
    cases h
    rw [retV_eq ok h0]
    rfl
  · cases h
def slices_IndexFunc_int_int__impl_all_1_dec (res : Res T) : Option Int := match res.rets, res.outs with
  | [a0], [] => (retV (T := T) 3 a0).bind fun r0 => some (r0)
  | _, _ => none
def slices_IndexFunc_int_int__impl_all_1_enc (y : Int) : Res T := ⟨[vR T 3 y], []⟩
theorem slices_IndexFunc_int_int__impl_all_1_de (res : Res T) (y : Int) (h : slices_IndexFunc_int_int__impl_all_1_dec res = some y) : res = slices_IndexFunc_int_int__impl_all_1_enc y := by
  obtain ⟨rets, outs⟩ := res
  unfold slices_IndexFunc_int_int__impl_all_1_dec at h
  dsimp only at h
  split at h
  · obtain ⟨r0, h0, h⟩ := Option.bind_eq_some_iff.1 h
    cases h
    rw [retV_eq ok h0]
    rfl
  · cases h
def slices_ContainsFunc_int_int__impl_all_1_dec (res : Res T) : Option Bool := match res.rets, res.outs with
  | [a0], [] => (retV (T := T) 4 a0).bind fun r0 => some (r0)
  | _, _ => none
def slices_ContainsFunc_int_int__impl_all_1_enc (y : Bool) : Res T := ⟨[vR T 4 y], []⟩
theorem slices_ContainsFunc_int_int__impl_all_1_de (res : Res T) (y : Bool) (h : slices_ContainsFunc_int_int__impl_all_1_dec res = some y) : res = slices_ContainsFunc_int_int__impl_all_1_enc y := by
  obtain ⟨rets, outs⟩ := res
  unfold slices_ContainsFunc_int_int__impl_all_1_dec at h
  dsimp only at h
  split at h
  · obtain ⟨r0, h0, h⟩ := Option.bind_eq_some_iff.1 h
    cases h
    rw [retV_eq ok h0]
    rfl
  · cases h
def impl_all_dec (res : Res T) : Option Bool := match res.rets, res.outs with
  | [a0], [] => (retV (T := T) 4 a0).bind fun r0 => some (r0)
  | _, _ => none
def impl_all_enc (y : Bool) : Res T := ⟨[vR T 4 y], []⟩
theorem impl_all_de (res : Res T) (y : Bool) (h : impl_all_dec res = some y) : res = impl_all_enc y := by
  obtain ⟨rets, outs⟩ := res
  unfold impl_all_dec at h
  dsimp only at h
  split at h
  · obtain ⟨r0, h0, h⟩ := Option.bind_eq_some_iff.1 h
    cases h
    rw [retV_eq ok h0]
    rfl
  · cases h
def impl_SeaOk_dec (res : Res T) : Option Bool := match res.rets, res.outs with
  | [a0], [] => (retV (T := T) 4 a0).bind fun r0 => some (r0)
  | _, _ => none
def impl_SeaOk_enc (y : Bool) : Res T := ⟨[vR T 4 y], []⟩
theorem impl_SeaOk_de (res : Res T) (y : Bool) (h : impl_SeaOk_dec res = some y) : res = impl_SeaOk_enc y := by
  obtain ⟨rets, outs⟩ := res
  unfold impl_SeaOk_dec at h
  dsimp only at h
  split at h
  · obtain ⟨r0, h0, h⟩ := Option.bind_eq_some_iff.1 h
    cases h
    rw [retV_eq ok h0]
    rfl
  · cases h
def impl_Sea_place_dec (res : Res T) : Option Bool := match res.rets, res.outs with
  | [a0], [] => (retV (T := T) 4 a0).bind fun r0 => some (r0)
  | _, _ => none
def impl_Sea_place_enc (y : Bool) : Res T := ⟨[vR T 4 y], []⟩
theorem impl_Sea_place_de (res : Res T) (y : Bool) (h : impl_Sea_place_dec res = some y) : res = impl_Sea_place_enc y := by
  obtain ⟨rets, outs⟩ := res
  unfold impl_Sea_place_dec at h
  dsimp only at h
  split at h
  · obtain ⟨r0, h0, h⟩ := Option.bind_eq_some_iff.1 h
    cases h
    rw [retV_eq ok h0]
    rfl
  · cases h
def impl_Sea_next_dec (res : Res T) : Option (List Int) := match res.rets, res.outs with
  | [a0], [] => (retV (T := T) 55 a0).bind fun r0 => some (r0)
  | _, _ => none
def impl_Sea_next_enc (y : List Int) : Res T := ⟨[vR T 55 y], []⟩
theorem impl_Sea_next_de (res : Res T) (y : List Int) (h : impl_Sea_next_dec res = some y) : res = impl_Sea_next_enc y := by
  obtain ⟨rets, outs⟩ := res
  unfold impl_Sea_next_dec at h
  dsimp only at h
  split at h
  · obtain ⟨r0, h0, h⟩ := Option.bind_eq_some_iff.1 h
    cases h
    rw [retV_eq ok h0]
    rfl
  · cases h
def impl_Cheapest_dec (res : Res T) : Option (List Int × Bool) := match res.rets, res.outs with
  | [a0, a1], [] => (retV (T := T) 55 a0).bind fun r0 => (retV (T := T) 4 a1).bind fun r1 => some (r0, r1)
  | _, _ => none
def impl_Cheapest_enc (y : List Int × Bool) : Res T := ⟨[vR T 55 y.1, vR T 4 y.2], []⟩
theorem impl_Cheapest_de (res : Res T) (y : List Int × Bool) (h : impl_Cheapest_dec res = some y) : res = impl_Cheapest_enc y := by
  obtain ⟨rets, outs⟩ := res
  unfold impl_Cheapest_dec at h
  dsimp only at h
  split at h
  · obtain ⟨r0, h0, h⟩ := Option.bind_eq_some_iff.1 h
    obtain ⟨r1, h1, h⟩ := Option.bind_eq_some_iff.1 h
    cases h
    rw [retV_eq ok h0, retV_eq ok h1]
    rfl
  · cases h
def impl_own_int_dec (res : Res T) : Option (List Int) := match res.rets, res.outs with
  | [a0], [] => (retV (T := T) 55 a0).bind fun r0 => some (r0)
  | _, _ => none
def impl_own_int_enc (y : List Int) : Res T := ⟨[vR T 55 y], []⟩
theorem impl_own_int_de (res : Res T) (y : List Int) (h : impl_own_int_dec res = some y) : res = impl_own_int_enc y := by
  obtain ⟨rets, outs⟩ := res
  unfold impl_own_int_dec at h
  dsimp only at h
  split at h
  · obtain ⟨r0, h0, h⟩ := Option.bind_eq_some_iff.1 h
    cases h
    rw [retV_eq ok h0]
    rfl
  · cases h
def impl_WayOf_dec (res : Res T) : Option (List Int × Bool) := match res.rets, res.outs with
  | [a0, a1], [] => (retV (T := T) 55 a0).bind fun r0 => (retV (T := T) 4 a1).bind fun r1 => some (r0, r1)
  | _, _ => none
def impl_WayOf_enc (y : List Int × Bool) : Res T := ⟨[vR T 55 y.1, vR T 4 y.2], []⟩
theorem impl_WayOf_de (res : Res T) (y : List Int × Bool) (h : impl_WayOf_dec res = some y) : res = impl_WayOf_enc y := by
  obtain ⟨rets, outs⟩ := res
  unfold impl_WayOf_dec at h
  dsimp only at h
  split at h
  · obtain ⟨r0, h0, h⟩ := Option.bind_eq_some_iff.1 h
    obtain ⟨r1, h1, h⟩ := Option.bind_eq_some_iff.1 h
    cases h
    rw [retV_eq ok h0, retV_eq ok h1]
    rfl
  · cases h
def laws_eqIntS_dec (res : Res T) : Option Bool := match res.rets, res.outs with
  | [a0], [] => (retV (T := T) 4 a0).bind fun r0 => some (r0)
  | _, _ => none
def laws_eqIntS_enc (y : Bool) : Res T := ⟨[vR T 4 y], []⟩
theorem laws_eqIntS_de (res : Res T) (y : Bool) (h : laws_eqIntS_dec res = some y) : res = laws_eqIntS_enc y := by
  obtain ⟨rets, outs⟩ := res
  unfold laws_eqIntS_dec at h
  dsimp only at h
  split at h
  · obtain ⟨r0, h0, h⟩ := Option.bind_eq_some_iff.1 h
    cases h
    rw [retV_eq ok h0]
    rfl
  · cases h
def laws_eqClosed_dec (res : Res T) : Option Bool := match res.rets, res.outs with
  | [a0], [] => (retV (T := T) 4 a0).bind fun r0 => some (r0)
  | _, _ => none
def laws_eqClosed_enc (y : Bool) : Res T := ⟨[vR T 4 y], []⟩
theorem laws_eqClosed_de (res : Res T) (y : Bool) (h : laws_eqClosed_dec res = some y) : res = laws_eqClosed_enc y := by
  obtain ⟨rets, outs⟩ := res
  unfold laws_eqClosed_dec at h
  dsimp only at h
  split at h
  · obtain ⟨r0, h0, h⟩ := Option.bind_eq_some_iff.1 h
    cases h
    rw [retV_eq ok h0]
    rfl
  · cases h
def laws_eqClosedS_dec (res : Res T) : Option Bool := match res.rets, res.outs with
  | [a0], [] => (retV (T := T) 4 a0).bind fun r0 => some (r0)
  | _, _ => none
def laws_eqClosedS_enc (y : Bool) : Res T := ⟨[vR T 4 y], []⟩
theorem laws_eqClosedS_de (res : Res T) (y : Bool) (h : laws_eqClosedS_dec res = some y) : res = laws_eqClosedS_enc y := by
  obtain ⟨rets, outs⟩ := res
  unfold laws_eqClosedS_dec at h
  dsimp only at h
  split at h
  · obtain ⟨r0, h0, h⟩ := Option.bind_eq_some_iff.1 h
    cases h
    rw [retV_eq ok h0]
    rfl
  · cases h
def laws_eqSea_dec (res : Res T) : Option Bool := match res.rets, res.outs with
  | [a0], [] => (retV (T := T) 4 a0).bind fun r0 => some (r0)
  | _, _ => none
def laws_eqSea_enc (y : Bool) : Res T := ⟨[vR T 4 y], []⟩
theorem laws_eqSea_de (res : Res T) (y : Bool) (h : laws_eqSea_dec res = some y) : res = laws_eqSea_enc y := by
  obtain ⟨rets, outs⟩ := res
  unfold laws_eqSea_dec at h
  dsimp only at h
  split at h
  · obtain ⟨r0, h0, h⟩ := Option.bind_eq_some_iff.1 h
    cases h
    rw [retV_eq ok h0]
    rfl
  · cases h
def laws_markIntS_dec (res : Res T) : Option (Int × List Int) := match res.rets, res.outs with
  | [a0], [b0] => (retV (T := T) 3 a0).bind fun r0 => (outS (T := T) 3 b0).bind fun r1 => some (r0, r1)
  | _, _ => none
def laws_markIntS_enc (y : Int × List Int) : Res T := ⟨[vR T 3 y.1], [.sl 3 y.2]⟩
theorem laws_markIntS_de (res : Res T) (y : Int × List Int) (h : laws_markIntS_dec res = some y) : res = laws_markIntS_enc y := by
  obtain ⟨rets, outs⟩ := res
  unfold laws_markIntS_dec at h
  dsimp only at h
  split at h
  · obtain ⟨r0, h0, h⟩ := Option.bind_eq_some_iff.1 h
    obtain ⟨r1, h1, h⟩ := Option.bind_eq_some_iff.1 h
    cases h
    rw [retV_eq ok h0, outS_eq h1]
    rfl
  · cases h
def laws_markClosedS_dec (res : Res T) : Option (Int × List SClosed) := match res.rets, res.outs with
  | [a0], [b0] => (retV (T := T) 3 a0).bind fun r0 => (outS (T := T) 206 b0).bind fun r1 => some (r0, r1)
  | _, _ => none
def laws_markClosedS_enc (y : Int × List SClosed) : Res T := ⟨[vR T 3 y.1], [.sl 206 y.2]⟩
theorem laws_markClosedS_de (res : Res T) (y : Int × List SClosed) (h : laws_markClosedS_dec res = some y) : res = laws_markClosedS_enc y := by
  obtain ⟨rets, outs⟩ := res
  unfold laws_markClosedS_dec at h
  dsimp only at h
  split at h
  · obtain ⟨r0, h0, h⟩ := Option.bind_eq_some_iff.1 h
    obtain ⟨r1, h1, h⟩ := Option.bind_eq_some_iff.1 h
    cases h
    rw [retV_eq ok h0, outS_eq h1]
    rfl
  · cases h
def laws_markSea_dec (res : Res T) : Option (Int × List Int × List SClosed) := match res.rets, res.outs with
  | [a0], [b0, b1] => (retV (T := T) 3 a0).bind fun r0 => (outS (T := T) 3 b0).bind fun r1 => (outS (T := T) 206 b1).bind fun r2 => some (r0, r1, r2)
  | _, _ => none
def laws_markSea_enc (y : Int × List Int × List SClosed) : Res T := ⟨[vR T 3 y.1], [.sl 3 y.2.1, .sl 206 y.2.2]⟩
theorem laws_markSea_de (res : Res T) (y : Int × List Int × List SClosed) (h : laws_markSea_dec res = some y) : res = laws_markSea_enc y := by
  obtain ⟨rets, outs⟩ := res
  unfold laws_markSea_dec at h
  dsimp only at h
  split at h
  · obtain ⟨r0, h0, h⟩ := Option.bind_eq_some_iff.1 h
    obtain ⟨r1, h1, h⟩ := Option.bind_eq_some_iff.1 h
    obtain ⟨r2, h2, h⟩ := Option.bind_eq_some_iff.1 h
    cases h
    rw [retV_eq ok h0, outS_eq h1, outS_eq h2]
    rfl
  · cases h
def laws_heldIntS_dec (res : Res T) : Option Int := match res.rets, res.outs with
  | [a0], [] => (retV (T := T) 3 a0).bind fun r0 => some (r0)
  | _, _ => none
def laws_heldIntS_enc (y : Int) : Res T := ⟨[vR T 3 y], []⟩
theorem laws_heldIntS_de (res : Res T) (y : Int) (h : laws_heldIntS_dec res = some y) : res = laws_heldIntS_enc y := by
  obtain ⟨rets, outs⟩ := res
  unfold laws_heldIntS_dec at h
  dsimp only at h
  split at h
  · obtain ⟨r0, h0, h⟩ := Option.bind_eq_some_iff.1 h
    cases h
    rw [retV_eq ok h0]
    rfl
  · cases h
def laws_FnExactWayOf_dec (res : Res T) : Option Bool := match res.rets, res.outs with
  | [a0], [] => (retV (T := T) 4 a0).bind fun r0 => some (r0)
  | _, _ => none
def laws_FnExactWayOf_enc (y : Bool) : Res T := ⟨[vR T 4 y], []⟩
theorem laws_FnExactWayOf_de (res : Res T) (y : Bool) (h : laws_FnExactWayOf_dec res = some y) : res = laws_FnExactWayOf_enc y := by
  obtain ⟨rets, outs⟩ := res
  unfold laws_FnExactWayOf_dec at h
  dsimp only at h
  split at h
  · obtain ⟨r0, h0, h⟩ := Option.bind_eq_some_iff.1 h
    cases h
    rw [retV_eq ok h0]
    rfl
  · cases h
def laws_szIntS_D (n : Nat) (r0 : List (A T)) : Option Int := ocons r0 fun a0 r1 => ocons r1 fun a1 r2 => onil r2 (obind (argV (T := T) 55 a0) fun a0 => obind (argV (T := T) 3 a1) fun left1 => laws_szIntS n a0 left1)
def laws_szIntS_ent (n : Nat) : Ent T := ⟨110, 0, [], Int, laws_szIntS_D n, laws_szIntS_enc⟩
def laws_szClosedS_D (n : Nat) (r0 : List (A T)) : Option Int := ocons r0 fun a0 r1 => ocons r1 fun a1 r2 => onil r2 (obind (argV (T := T) 114 a0) fun a0 => obind (argV (T := T) 3 a1) fun left1 => laws_szClosedS n a0 left1)
def laws_szClosedS_ent (n : Nat) : Ent T := ⟨144, 1, [], Int, laws_szClosedS_D n, laws_szClosedS_enc⟩
def laws_szSea_D (n : Nat) (r0 : List (A T)) : Option Int := ocons r0 fun a0 r1 => ocons r1 fun a1 r2 => onil r2 (obind (argV (T := T) 116 a0) fun a0 => obind (argV (T := T) 3 a1) fun left1 => laws_szSea n a0 left1)
def laws_szSea_ent (n : Nat) : Ent T := ⟨73, 2, [], Int, laws_szSea_D n, laws_szSea_enc⟩
def laws_toIntS_D (n : Nat) (r0 : List (A T)) : Option (List Int) := ocons r0 fun a0 r1 => onil r1 (obind (argV (T := T) 55 a0) fun a0 => laws_toIntS n a0)
def laws_toIntS_ent (n : Nat) : Ent T := ⟨112, 3, [], List Int, laws_toIntS_D n, laws_toIntS_enc⟩
def laws_toClosed_D (n : Nat) (r0 : List (A T)) : Option SClosed := ocons r0 fun a0 r1 => onil r1 (obind (argV (T := T) 272 a0) fun a0 => laws_toClosed n a0)
def laws_toClosed_ent (n : Nat) : Ent T := ⟨213, 4, [], SClosed, laws_toClosed_D n, laws_toClosed_enc⟩
def laws_toClosedS_D (n : Nat) (r0 : List (A T)) : Option (List SClosed) := ocons r0 fun a0 r1 => onil r1 (obind (argV (T := T) 114 a0) fun a0 => laws_toClosedS n a0)
def laws_toClosedS_ent (n : Nat) : Ent T := ⟨148, 5, [], List SClosed, laws_toClosedS_D n, laws_toClosedS_enc⟩
def laws_toSea_D (n : Nat) (r0 : List (A T)) : Option SSea := ocons r0 fun a0 r1 => onil r1 (obind (argV (T := T) 116 a0) fun a0 => laws_toSea n a0)
def laws_toSea_ent (n : Nat) : Ent T := ⟨75, 6, [], SSea, laws_toSea_D n, laws_toSea_enc⟩
def spec_l1In_D (n : Nat) (r0 : List (A T)) : Option Bool := ocons r0 fun a0 r1 => ocons r1 fun a1 r2 => ocons r2 fun a2 r3 => onil r3 (obind (argV (T := T) 3 a0) fun x0 => obind (argV (T := T) 3 a1) fun a1 => obind (argV (T := T) 3 a2) fun b2 => spec_l1In n x0 a1 b2)
def spec_l1In_ent (n : Nat) : Ent T := ⟨100, 7, [], Bool, spec_l1In_D n, spec_l1In_enc⟩
def spec_l3All_D (n : Nat) (r0 : List (A T)) : Option Bool := ocons r0 fun a0 r1 => ocons r1 fun a1 r2 => ocons r2 fun a2 r3 => onil r3 (obind (argV (T := T) 55 a0) fun list0 => obind (argV (T := T) 3 a1) fun a1 => obind (argV (T := T) 3 a2) fun b2 => spec_l3All n list0 a1 b2)
def spec_l3All_ent (n : Nat) : Ent T := ⟨250, 8, [], Bool, spec_l3All_D n, spec_l3All_enc⟩
def spec_SeaOk_D (n : Nat) (r0 : List (A T)) : Option Bool := ocons r0 fun a0 r1 => onil r1 (obind (argV (T := T) 103 a0) fun s0 => spec_SeaOk n s0)
def spec_SeaOk_ent (n : Nat) : Ent T := ⟨212, 9, [], Bool, spec_SeaOk_D n, spec_SeaOk_enc⟩
def spec_l7Place_D (n : Nat) (r0 : List (A T)) : Option Bool := ocons r0 fun a0 r1 => ocons r1 fun a1 r2 => onil r2 (obind (argV (T := T) 103 a0) fun s0 => obind (argV (T := T) 3 a1) fun p1 => spec_l7Place n s0 p1)
def spec_l7Place_ent (n : Nat) : Ent T := ⟨146, 10, [], Bool, spec_l7Place_D n, spec_l7Place_enc⟩
def spec_l7Next_D (n : Nat) (r0 : List (A T)) : Option Bool := ocons r0 fun a0 r1 => ocons r1 fun a1 r2 => ocons r2 fun a2 r3 => onil r3 (obind (argV (T := T) 103 a0) fun s0 => obind (argV (T := T) 3 a1) fun a1 => obind (argV (T := T) 3 a2) fun b2 => spec_l7Next n s0 a1 b2)
def spec_l7Next_ent (n : Nat) : Ent T := ⟨147, 11, [], Bool, spec_l7Next_D n, spec_l7Next_enc⟩
def spec_Cheapest_D (n : Nat) (r0 : List (A T)) : Option (List Int × Bool) := ocons r0 fun a0 r1 => ocons r1 fun a1 r2 => onil r2 (obind (argV (T := T) 103 a0) fun s0 => obind (argV (T := T) 3 a1) fun from1 => spec_Cheapest n s0 from1)
def spec_Cheapest_ent (n : Nat) : Ent T := ⟨145, 12, [], List Int × Bool, spec_Cheapest_D n, spec_Cheapest_enc⟩
def spec_WayOf_D (n : Nat) (r0 : List (A T)) : Option (List Int × Bool) := ocons r0 fun a0 r1 => ocons r1 fun a1 r2 => ocons r2 fun a2 r3 => onil r3 (obind (argV (T := T) 103 a0) fun s0 => obind (argV (T := T) 3 a1) fun from1 => obind (argV (T := T) 3 a2) fun to2 => spec_WayOf n s0 from1 to2)
def spec_WayOf_ent (n : Nat) : Ent T := ⟨74, 13, [], List Int × Bool, spec_WayOf_D n, spec_WayOf_enc⟩
def impl_in_D (n : Nat) (r0 : List (A T)) : Option Bool := ocons r0 fun a0 r1 => ocons r1 fun a1 r2 => ocons r2 fun a2 r3 => onil r3 (obind (argV (T := T) 3 a0) fun n0 => obind (argV (T := T) 3 a1) fun least1 => obind (argV (T := T) 3 a2) fun most2 => impl_in n n0 least1 most2)
def impl_in_ent (n : Nat) : Ent T := ⟨119, 14, [], Bool, impl_in_D n, impl_in_enc⟩
def impl_all_1_D (n : Nat) (r0 : List (A T)) : Option Bool := ocons r0 fun a0 r1 => ocons r1 fun a1 r2 => ocons r2 fun a2 r3 => onil r3 (obind (argV (T := T) 3 a0) fun n0 => obind (argP (T := T) 3 a1) fun a1 => obind (argP (T := T) 3 a2) fun a2 => impl_all_1 n n0 a1 a2)
def impl_all_1_ent (n : Nat) : Ent T := ⟨196, 15, [], Bool, impl_all_1_D n, impl_all_1_enc⟩
def slices_IndexFunc_int_int__impl_all_1_D (n : Nat) (ar : List (A T)) : Option Int := match ar with
  | [a0, .fn _ [k1_0, k1_1]] => obind (argV (T := T) 55 a0) fun s0 => obind (argP (T := T) 3 k1_0) fun f1c0 => obind (argP (T := T) 3 k1_1) fun f1c1 => slices_IndexFunc_int_int__impl_all_1 n s0 f1c0 f1c1
  | _ => none
def slices_IndexFunc_int_int__impl_all_1_ent (n : Nat) : Ent T := ⟨222, 16, [196], Int, slices_IndexFunc_int_int__impl_all_1_D n, slices_IndexFunc_int_int__impl_all_1_enc⟩
def slices_ContainsFunc_int_int__impl_all_1_D (n : Nat) (ar : List (A T)) : Option Bool := match ar with
  | [a0, .fn _ [k1_0, k1_1]] => obind (argV (T := T) 55 a0) fun s0 => obind (argP (T := T) 3 k1_0) fun f1c0 => obind (argP (T := T) 3 k1_1) fun f1c1 => slices_ContainsFunc_int_int__impl_all_1 n s0 f1c0 f1c1
  | _ => none
def slices_ContainsFunc_int_int__impl_all_1_ent (n : Nat) : Ent T := ⟨158, 17, [196], Bool, slices_ContainsFunc_int_int__impl_all_1_D n, slices_ContainsFunc_int_int__impl_all_1_enc⟩
def impl_all_D (n : Nat) (r0 : List (A T)) : Option Bool := ocons r0 fun a0 r1 => ocons r1 fun a1 r2 => ocons r2 fun a2 r3 => onil r3 (obind (argV (T := T) 55 a0) fun l0 => obind (argV (T := T) 3 a1) fun least1 => obind (argV (T := T) 3 a2) fun most2 => impl_all n l0 least1 most2)
def impl_all_ent (n : Nat) : Ent T := ⟨120, 18, [], Bool, impl_all_D n, impl_all_enc⟩
def impl_SeaOk_D (n : Nat) (r0 : List (A T)) : Option Bool := ocons r0 fun a0 r1 => onil r1 (obind (argV (T := T) 103 a0) fun s0 => impl_SeaOk n s0)
def impl_SeaOk_ent (n : Nat) : Ent T := ⟨66, 19, [], Bool, impl_SeaOk_D n, impl_SeaOk_enc⟩
def impl_Sea_place_D (n : Nat) (r0 : List (A T)) : Option Bool := ocons r0 fun a0 r1 => ocons r1 fun a1 r2 => onil r2 (obind (argV (T := T) 103 a0) fun s0 => obind (argV (T := T) 3 a1) fun p1 => impl_Sea_place n s0 p1)
def impl_Sea_place_ent (n : Nat) : Ent T := ⟨140, 20, [], Bool, impl_Sea_place_D n, impl_Sea_place_enc⟩
def impl_Sea_next_D (n : Nat) (r0 : List (A T)) : Option (List Int) := ocons r0 fun a0 r1 => ocons r1 fun a1 r2 => onil r2 (obind (argV (T := T) 103 a0) fun s0 => obind (argV (T := T) 3 a1) fun p1 => impl_Sea_next n s0 p1)
def impl_Sea_next_ent (n : Nat) : Ent T := ⟨141, 21, [], List Int, impl_Sea_next_D n, impl_Sea_next_enc⟩
def impl_Cheapest_D (n : Nat) (r0 : List (A T)) : Option (List Int × Bool) := ocons r0 fun a0 r1 => ocons r1 fun a1 r2 => onil r2 (obind (argV (T := T) 103 a0) fun s0 => obind (argV (T := T) 3 a1) fun from1 => impl_Cheapest n s0 from1)
def impl_Cheapest_ent (n : Nat) : Ent T := ⟨65, 22, [], List Int × Bool, impl_Cheapest_D n, impl_Cheapest_enc⟩
def impl_own_int_D (n : Nat) (r0 : List (A T)) : Option (List Int) := ocons r0 fun a0 r1 => onil r1 (obind (argV (T := T) 55 a0) fun l0 => impl_own_int n l0)
def impl_own_int_ent (n : Nat) : Ent T := ⟨104, 23, [], List Int, impl_own_int_D n, impl_own_int_enc⟩
def impl_WayOf_D (n : Nat) (r0 : List (A T)) : Option (List Int × Bool) := ocons r0 fun a0 r1 => ocons r1 fun a1 r2 => ocons r2 fun a2 r3 => onil r3 (obind (argV (T := T) 103 a0) fun s0 => obind (argV (T := T) 3 a1) fun from1 => obind (argV (T := T) 3 a2) fun to2 => impl_WayOf n s0 from1 to2)
def impl_WayOf_ent (n : Nat) : Ent T := ⟨68, 24, [], List Int × Bool, impl_WayOf_D n, impl_WayOf_enc⟩
def laws_eqIntS_D (n : Nat) (r0 : List (A T)) : Option Bool := ocons r0 fun a0 r1 => ocons r1 fun a1 r2 => onil r2 (obind (argV (T := T) 55 a0) fun a0 => obind (argV (T := T) 55 a1) fun b1 => laws_eqIntS n a0 b1)
def laws_eqIntS_ent (n : Nat) : Ent T := ⟨37, 25, [], Bool, laws_eqIntS_D n, laws_eqIntS_enc⟩
def laws_eqClosed_D (n : Nat) (r0 : List (A T)) : Option Bool := ocons r0 fun a0 r1 => ocons r1 fun a1 r2 => onil r2 (obind (argV (T := T) 206 a0) fun a0 => obind (argV (T := T) 206 a1) fun b1 => laws_eqClosed n a0 b1)
def laws_eqClosed_ent (n : Nat) : Ent T := ⟨214, 26, [], Bool, laws_eqClosed_D n, laws_eqClosed_enc⟩
def laws_eqClosedS_D (n : Nat) (r0 : List (A T)) : Option Bool := ocons r0 fun a0 r1 => ocons r1 fun a1 r2 => onil r2 (obind (argV (T := T) 101 a0) fun a0 => obind (argV (T := T) 101 a1) fun b1 => laws_eqClosedS n a0 b1)
def laws_eqClosedS_ent (n : Nat) : Ent T := ⟨149, 27, [], Bool, laws_eqClosedS_D n, laws_eqClosedS_enc⟩
def laws_eqSea_D (n : Nat) (r0 : List (A T)) : Option Bool := ocons r0 fun a0 r1 => ocons r1 fun a1 r2 => onil r2 (obind (argV (T := T) 103 a0) fun a0 => obind (argV (T := T) 103 a1) fun b1 => laws_eqSea n a0 b1)
def laws_eqSea_ent (n : Nat) : Ent T := ⟨76, 28, [], Bool, laws_eqSea_D n, laws_eqSea_enc⟩
def laws_markIntS_D (n : Nat) (r0 : List (A T)) : Option (Int × List Int) := ocons r0 fun a0 r1 => ocons r1 fun a1 r2 => onil r2 (obind (argV (T := T) 55 a0) fun a0 => obind (argV (T := T) 3 a1) fun k1 => laws_markIntS n a0 k1)
def laws_markIntS_ent (n : Nat) : Ent T := ⟨40, 29, [], Int × List Int, laws_markIntS_D n, laws_markIntS_enc⟩
def laws_markClosedS_D (n : Nat) (r0 : List (A T)) : Option (Int × List SClosed) := ocons r0 fun a0 r1 => ocons r1 fun a1 r2 => onil r2 (obind (argV (T := T) 101 a0) fun a0 => obind (argV (T := T) 3 a1) fun k1 => laws_markClosedS n a0 k1)
def laws_markClosedS_ent (n : Nat) : Ent T := ⟨150, 30, [], Int × List SClosed, laws_markClosedS_D n, laws_markClosedS_enc⟩
def laws_markSea_D (n : Nat) (r0 : List (A T)) : Option (Int × List Int × List SClosed) := ocons r0 fun a0 r1 => ocons r1 fun a1 r2 => onil r2 (obind (argV (T := T) 103 a0) fun a0 => obind (argV (T := T) 3 a1) fun k1 => laws_markSea n a0 k1)
def laws_markSea_ent (n : Nat) : Ent T := ⟨77, 31, [], Int × List Int × List SClosed, laws_markSea_D n, laws_markSea_enc⟩
def laws_heldIntS_D (n : Nat) (r0 : List (A T)) : Option Int := ocons r0 fun a0 r1 => ocons r1 fun a1 r2 => onil r2 (obind (argV (T := T) 55 a0) fun a0 => obind (argV (T := T) 3 a1) fun k1 => laws_heldIntS n a0 k1)
def laws_heldIntS_ent (n : Nat) : Ent T := ⟨41, 32, [], Int, laws_heldIntS_D n, laws_heldIntS_enc⟩
def laws_FnExactWayOf_D (n : Nat) (r0 : List (A T)) : Option Bool := ocons r0 fun a0 r1 => ocons r1 fun a1 r2 => ocons r2 fun a2 r3 => onil r3 (obind (argV (T := T) 116 a0) fun aS0 => obind (argV (T := T) 3 a1) fun aFrom1 => obind (argV (T := T) 3 a2) fun aTo2 => laws_FnExactWayOf n aS0 aFrom1 aTo2)
def laws_FnExactWayOf_ent (n : Nat) : Ent T := ⟨12, 33, [], Bool, laws_FnExactWayOf_D n, laws_FnExactWayOf_enc⟩
def ents (n : Nat) : List (Ent T) := [laws_szIntS_ent n, laws_szClosedS_ent n, laws_szSea_ent n, laws_toIntS_ent n, laws_toClosed_ent n, laws_toClosedS_ent n, laws_toSea_ent n, spec_l1In_ent n, spec_l3All_ent n, spec_SeaOk_ent n, spec_l7Place_ent n, spec_l7Next_ent n, spec_Cheapest_ent n, spec_WayOf_ent n, impl_in_ent n, impl_all_1_ent n, slices_IndexFunc_int_int__impl_all_1_ent n, slices_ContainsFunc_int_int__impl_all_1_ent n, impl_all_ent n, impl_SeaOk_ent n, impl_Sea_place_ent n, impl_Sea_next_ent n, impl_Cheapest_ent n, impl_own_int_ent n, impl_WayOf_ent n, laws_eqIntS_ent n, laws_eqClosed_ent n, laws_eqClosedS_ent n, laws_eqSea_ent n, laws_markIntS_ent n, laws_markClosedS_ent n, laws_markSea_ent n, laws_heldIntS_ent n, laws_FnExactWayOf_ent n]
abbrev Phi (n i : Nat) {R : Type} (f : Nat) (ar : List (A T)) (K : Res T → Option R) : Option R := PhiE (ents n) i f ar K
theorem mixed : Try.prog.follows .mixedOrders = true := by kernel_rfl
noncomputable def laws_szIntS_code : Code := match Try.f110.body with | some c => c | none => .skip
def laws_szIntS_ann : Ann := fun id => none
def laws_szIntS_Ls (n : Nat) : Nat → Option (LSpec T) := fun id => none
theorem laws_szIntS_tie (n : Nat) (a0 : List Int) (left1 : Int) : evF (T := T) (Phi n 0) (laws_szIntS_Ls n) laws_szIntS_ann n Try.f110 (sg 110) [vA T 55 a0, vA T 3 left1] laws_szIntS_dec = laws_szIntS n a0 left1 := by kernel_rfl
theorem laws_szIntS_lo (n : Nat) : LoopsOk (T := T) (Phi n 0) (laws_szIntS_Ls n) laws_szIntS_ann n laws_szIntS_code := loopsOk_all (cs := []) (by kernel_rfl) trivial
theorem laws_szIntS_ok (n : Nat) : EntOk Try.prog (ents n) (laws_szIntS_ent n) := by
  intro hs ar y hg h
  replace h : laws_szIntS_D n ar = some y := h
  unfold laws_szIntS_D at h
  replace h := ocons_some h
  obtain ⟨a0, r0, rfl, h⟩ := h
  replace h := ocons_some h
  obtain ⟨a1, r1, rfl, h⟩ := h
  replace h := onil_some h
  obtain ⟨rfl, h⟩ := h
  obtain ⟨a0, qh0, h⟩ := obind_some h
  obtain ⟨left1, qh1, h⟩ := obind_some h
  rw [argV_eq ok qh0, argV_eq ok qh1]
  exact call_of (phiE_nat _ _) hs ok mixed Try.func110 (c := laws_szIntS_code) (by kernel_rfl) (laws_szIntS_lo n) (by kernel_rfl) (by kernel_rfl) (by kernel_rfl) laws_szIntS_de ((laws_szIntS_tie n a0 left1).trans h)
noncomputable def laws_szClosedS_code : Code := match Try.f144.body with | some c => c | none => .skip
def laws_szClosedS_ann : Ann := fun id => none
def laws_szClosedS_Ls (n : Nat) : Nat → Option (LSpec T) := fun id => none
theorem laws_szClosedS_tie (n : Nat) (a0 : List SClosed) (left1 : Int) : evF (T := T) (Phi n 1) (laws_szClosedS_Ls n) laws_szClosedS_ann n Try.f144 (sg 144) [vA T 114 a0, vA T 3 left1] laws_szClosedS_dec = laws_szClosedS n a0 left1 := by kernel_rfl
theorem laws_szClosedS_lo (n : Nat) : LoopsOk (T := T) (Phi n 1) (laws_szClosedS_Ls n) laws_szClosedS_ann n laws_szClosedS_code := loopsOk_all (cs := []) (by kernel_rfl) trivial
theorem laws_szClosedS_ok (n : Nat) : EntOk Try.prog (ents n) (laws_szClosedS_ent n) := by
  intro hs ar y hg h
  replace h : laws_szClosedS_D n ar = some y := h
  unfold laws_szClosedS_D at h
  replace h := ocons_some h
  obtain ⟨a0, r0, rfl, h⟩ := h
  replace h := ocons_some h
  obtain ⟨a1, r1, rfl, h⟩ := h
  replace h := onil_some h
  obtain ⟨rfl, h⟩ := h
  obtain ⟨a0, qh0, h⟩ := obind_some h
  obtain ⟨left1, qh1, h⟩ := obind_some h
  rw [argV_eq ok qh0, argV_eq ok qh1]
  exact call_of (phiE_nat _ _) hs ok mixed Try.func144 (c := laws_szClosedS_code) (by kernel_rfl) (laws_szClosedS_lo n) (by kernel_rfl) (by kernel_rfl) (by kernel_rfl) laws_szClosedS_de ((laws_szClosedS_tie n a0 left1).trans h)
noncomputable def laws_szSea_code : Code := match Try.f73.body with | some c => c | none => .skip
def laws_szSea_ann : Ann := fun id => none
def laws_szSea_Ls (n : Nat) : Nat → Option (LSpec T) := fun id => none
theorem laws_szSea_tie (n : Nat) (a0 : SSea) (left1 : Int) : evF (T := T) (Phi n 2) (laws_szSea_Ls n) laws_szSea_ann n Try.f73 (sg 73) [vA T 116 a0, vA T 3 left1] laws_szSea_dec = laws_szSea n a0 left1 := by kernel_rfl
theorem laws_szSea_lo (n : Nat) : LoopsOk (T := T) (Phi n 2) (laws_szSea_Ls n) laws_szSea_ann n laws_szSea_code := loopsOk_all (cs := []) (by kernel_rfl) trivial
theorem laws_szSea_ok (n : Nat) : EntOk Try.prog (ents n) (laws_szSea_ent n) := by
  intro hs ar y hg h
  replace h : laws_szSea_D n ar = some y := h
  unfold laws_szSea_D at h
  replace h := ocons_some h
  obtain ⟨a0, r0, rfl, h⟩ := h
  replace h := ocons_some h
  obtain ⟨a1, r1, rfl, h⟩ := h
  replace h := onil_some h
  obtain ⟨rfl, h⟩ := h
  obtain ⟨a0, qh0, h⟩ := obind_some h
  obtain ⟨left1, qh1, h⟩ := obind_some h
  rw [argV_eq ok qh0, argV_eq ok qh1]
  exact call_of (phiE_nat _ _) hs ok mixed Try.func73 (c := laws_szSea_code) (by kernel_rfl) (laws_szSea_lo n) (by kernel_rfl) (by kernel_rfl) (by kernel_rfl) laws_szSea_de ((laws_szSea_tie n a0 left1).trans h)
noncomputable def laws_toIntS_code : Code := match Try.f112.body with | some c => c | none => .skip
def laws_toIntS_3_sv : List Sv := [.one (.arr 3), .one (.own 3000000 3 false), .one (.int .i64)]
def laws_toIntS_3_so : List So := [.arr 3 false]
def laws_toIntS_3_emb (c : List Int) (x : Int × List Int) : EVs T laws_toIntS_3_sv × EOs T laws_toIntS_3_so := ((c, (), x.1, ()), (x.2, ()))
def laws_toIntS_3_prj (y : EVs T laws_toIntS_3_sv × EOs T laws_toIntS_3_so) : List Int × (Int × List Int) := ((y.1.1), (y.1.2.2.1, y.2.1))
def laws_toIntS_3_b (n : Nat) {R : Type} (K : Ex → Sm.St T → Option R) (c : List Int) (x : Int × List Int) (J : (Int × List Int) → Option R) : Option R :=
  laws_toIntS_L3 n (fun (y0 : List Int) => K (.exit 0) (stOf (T := T) [3] [3000000] [.one (.own 3000000 3 false)] [.arr 3 false] ((), ()) (y0, ()))) (fun z0 z1 => J (z0, z1)) c x.1 x.2
def laws_toIntS_3_sp (n : Nat) : LSpec T := mkSpec T ⟨[((.reg 3), 3000000, 3)], [0, 3, 4], [3000000]⟩ laws_toIntS_3_sv laws_toIntS_3_so (List Int) (Int × List Int) laws_toIntS_3_emb laws_toIntS_3_prj (laws_toIntS_3_b n)
noncomputable def laws_toIntS_3_c : Code := ((loopCodes laws_toIntS_code)[0]?).getD .skip
def laws_toIntS_ann : Ann := fun id => bif Nat.beq id 3000003 then some ⟨[((.reg 3), 3000000, 3)], [3], [3000000]⟩ else none
def laws_toIntS_Ls (n : Nat) : Nat → Option (LSpec T) := fun id => bif Nat.beq id 3 then some (laws_toIntS_3_sp n) else none
theorem laws_toIntS_3_le (n : Nat) : LoopEq (T := T) (Phi n 3) (laws_toIntS_Ls n) laws_toIntS_ann n laws_toIntS_3_c (laws_toIntS_3_sp n) := ⟨mkSpec_dec (fun y => rfl), fun c x => by kernel_rfl, fun K J c x => by kernel_rfl⟩
theorem laws_toIntS_tie (n : Nat) (a0 : List Int) : evF (T := T) (Phi n 3) (laws_toIntS_Ls n) laws_toIntS_ann n Try.f112 (sg 112) [vA T 55 a0] laws_toIntS_dec = laws_toIntS n a0 := by kernel_rfl
theorem laws_toIntS_lo (n : Nat) : LoopsOk (T := T) (Phi n 3) (laws_toIntS_Ls n) laws_toIntS_ann n laws_toIntS_code := loopsOk_all (cs := [laws_toIntS_3_c]) (by kernel_rfl) ⟨⟨_, by kernel_rfl, laws_toIntS_3_le n⟩, trivial⟩
theorem laws_toIntS_ok (n : Nat) : EntOk Try.prog (ents n) (laws_toIntS_ent n) := by
  intro hs ar y hg h
  replace h : laws_toIntS_D n ar = some y := h
  unfold laws_toIntS_D at h
  replace h := ocons_some h
  obtain ⟨a0, r0, rfl, h⟩ := h
  replace h := onil_some h
  obtain ⟨rfl, h⟩ := h
  obtain ⟨a0, qh0, h⟩ := obind_some h
  rw [argV_eq ok qh0]
  exact call_of (phiE_nat _ _) hs ok mixed Try.func112 (c := laws_toIntS_code) (by kernel_rfl) (laws_toIntS_lo n) (by kernel_rfl) (by kernel_rfl) (by kernel_rfl) laws_toIntS_de ((laws_toIntS_tie n a0).trans h)
noncomputable def laws_toClosed_code : Code := match Try.f213.body with | some c => c | none => .skip
def laws_toClosed_ann : Ann := fun id => none
def laws_toClosed_Ls (n : Nat) : Nat → Option (LSpec T) := fun id => none
theorem laws_toClosed_tie (n : Nat) (a0 : SClosed) : evF (T := T) (Phi n 4) (laws_toClosed_Ls n) laws_toClosed_ann n Try.f213 (sg 213) [vA T 272 a0] laws_toClosed_dec = laws_toClosed n a0 := by kernel_rfl
theorem laws_toClosed_lo (n : Nat) : LoopsOk (T := T) (Phi n 4) (laws_toClosed_Ls n) laws_toClosed_ann n laws_toClosed_code := loopsOk_all (cs := []) (by kernel_rfl) trivial
theorem laws_toClosed_ok (n : Nat) : EntOk Try.prog (ents n) (laws_toClosed_ent n) := by
  intro hs ar y hg h
  replace h : laws_toClosed_D n ar = some y := h
  unfold laws_toClosed_D at h
  replace h := ocons_some h
  obtain ⟨a0, r0, rfl, h⟩ := h
  replace h := onil_some h
  obtain ⟨rfl, h⟩ := h
  obtain ⟨a0, qh0, h⟩ := obind_some h
  rw [argV_eq ok qh0]
  exact call_of (phiE_nat _ _) hs ok mixed Try.func213 (c := laws_toClosed_code) (by kernel_rfl) (laws_toClosed_lo n) (by kernel_rfl) (by kernel_rfl) (by kernel_rfl) laws_toClosed_de ((laws_toClosed_tie n a0).trans h)
noncomputable def laws_toClosedS_code : Code := match Try.f148.body with | some c => c | none => .skip
def laws_toClosedS_3_sv : List Sv := [.one (.arr 272), .one (.own 3000000 206 false), .one (.int .i64)]
def laws_toClosedS_3_so : List So := [.arr 206 false]
def laws_toClosedS_3_emb (c : List SClosed) (x : Int × List SClosed) : EVs T laws_toClosedS_3_sv × EOs T laws_toClosedS_3_so := ((c, (), x.1, ()), (x.2, ()))
def laws_toClosedS_3_prj (y : EVs T laws_toClosedS_3_sv × EOs T laws_toClosedS_3_so) : List SClosed × (Int × List SClosed) := ((y.1.1), (y.1.2.2.1, y.2.1))
def laws_toClosedS_3_b (n : Nat) {R : Type} (K : Ex → Sm.St T → Option R) (c : List SClosed) (x : Int × List SClosed) (J : (Int × List SClosed) → Option R) : Option R :=
  laws_toClosedS_L3 n (fun (y0 : List SClosed) => K (.exit 0) (stOf (T := T) [3] [3000000] [.one (.own 3000000 206 false)] [.arr 206 false] ((), ()) (y0, ()))) (fun z0 z1 => J (z0, z1)) c x.1 x.2
def laws_toClosedS_3_sp (n : Nat) : LSpec T := mkSpec T ⟨[((.reg 3), 3000000, 206)], [0, 3, 4], [3000000]⟩ laws_toClosedS_3_sv laws_toClosedS_3_so (List SClosed) (Int × List SClosed) laws_toClosedS_3_emb laws_toClosedS_3_prj (laws_toClosedS_3_b n)
noncomputable def laws_toClosedS_3_c : Code := ((loopCodes laws_toClosedS_code)[0]?).getD .skip
def laws_toClosedS_ann : Ann := fun id => bif Nat.beq id 3000003 then some ⟨[((.reg 3), 3000000, 206)], [3], [3000000]⟩ else none
def laws_toClosedS_Ls (n : Nat) : Nat → Option (LSpec T) := fun id => bif Nat.beq id 3 then some (laws_toClosedS_3_sp n) else none
theorem laws_toClosedS_3_le (n : Nat) : LoopEq (T := T) (Phi n 5) (laws_toClosedS_Ls n) laws_toClosedS_ann n laws_toClosedS_3_c (laws_toClosedS_3_sp n) := ⟨mkSpec_dec (fun y => rfl), fun c x => by kernel_rfl, fun K J c x => by kernel_rfl⟩
theorem laws_toClosedS_tie (n : Nat) (a0 : List SClosed) : evF (T := T) (Phi n 5) (laws_toClosedS_Ls n) laws_toClosedS_ann n Try.f148 (sg 148) [vA T 114 a0] laws_toClosedS_dec = laws_toClosedS n a0 := by kernel_rfl
theorem laws_toClosedS_lo (n : Nat) : LoopsOk (T := T) (Phi n 5) (laws_toClosedS_Ls n) laws_toClosedS_ann n laws_toClosedS_code := loopsOk_all (cs := [laws_toClosedS_3_c]) (by kernel_rfl) ⟨⟨_, by kernel_rfl, laws_toClosedS_3_le n⟩, trivial⟩
theorem laws_toClosedS_ok (n : Nat) : EntOk Try.prog (ents n) (laws_toClosedS_ent n) := by
  intro hs ar y hg h
  replace h : laws_toClosedS_D n ar = some y := h
  unfold laws_toClosedS_D at h
  replace h := ocons_some h
  obtain ⟨a0, r0, rfl, h⟩ := h
  replace h := onil_some h
  obtain ⟨rfl, h⟩ := h
  obtain ⟨a0, qh0, h⟩ := obind_some h
  rw [argV_eq ok qh0]
  exact call_of (phiE_nat _ _) hs ok mixed Try.func148 (c := laws_toClosedS_code) (by kernel_rfl) (laws_toClosedS_lo n) (by kernel_rfl) (by kernel_rfl) (by kernel_rfl) laws_toClosedS_de ((laws_toClosedS_tie n a0).trans h)
noncomputable def laws_toSea_code : Code := match Try.f75.body with | some c => c | none => .skip
def laws_toSea_ann : Ann := fun id => none
def laws_toSea_Ls (n : Nat) : Nat → Option (LSpec T) := fun id => none
theorem laws_toSea_tie (n : Nat) (a0 : SSea) : evF (T := T) (Phi n 6) (laws_toSea_Ls n) laws_toSea_ann n Try.f75 (sg 75) [vA T 116 a0] laws_toSea_dec = laws_toSea n a0 := by kernel_rfl
theorem laws_toSea_lo (n : Nat) : LoopsOk (T := T) (Phi n 6) (laws_toSea_Ls n) laws_toSea_ann n laws_toSea_code := loopsOk_all (cs := []) (by kernel_rfl) trivial
theorem laws_toSea_ok (n : Nat) : EntOk Try.prog (ents n) (laws_toSea_ent n) := by
  intro hs ar y hg h
  replace h : laws_toSea_D n ar = some y := h
  unfold laws_toSea_D at h
  replace h := ocons_some h
  obtain ⟨a0, r0, rfl, h⟩ := h
  replace h := onil_some h
  obtain ⟨rfl, h⟩ := h
  obtain ⟨a0, qh0, h⟩ := obind_some h
  rw [argV_eq ok qh0]
  exact call_of (phiE_nat _ _) hs ok mixed Try.func75 (c := laws_toSea_code) (by kernel_rfl) (laws_toSea_lo n) (by kernel_rfl) (by kernel_rfl) (by kernel_rfl) laws_toSea_de ((laws_toSea_tie n a0).trans h)
noncomputable def spec_l1In_code : Code := match Try.f100.body with | some c => c | none => .skip
def spec_l1In_ann : Ann := fun id => none
def spec_l1In_Ls (n : Nat) : Nat → Option (LSpec T) := fun id => none
theorem spec_l1In_tie (n : Nat) (x0 : Int) (a1 : Int) (b2 : Int) : evF (T := T) (Phi n 7) (spec_l1In_Ls n) spec_l1In_ann n Try.f100 (sg 100) [vA T 3 x0, vA T 3 a1, vA T 3 b2] spec_l1In_dec = spec_l1In n x0 a1 b2 := by kernel_rfl
theorem spec_l1In_lo (n : Nat) : LoopsOk (T := T) (Phi n 7) (spec_l1In_Ls n) spec_l1In_ann n spec_l1In_code := loopsOk_all (cs := []) (by kernel_rfl) trivial
theorem spec_l1In_ok (n : Nat) : EntOk Try.prog (ents n) (spec_l1In_ent n) := by
  intro hs ar y hg h
  replace h : spec_l1In_D n ar = some y := h
  unfold spec_l1In_D at h
  replace h := ocons_some h
  obtain ⟨a0, r0, rfl, h⟩ := h
  replace h := ocons_some h
  obtain ⟨a1, r1, rfl, h⟩ := h
  replace h := ocons_some h
  obtain ⟨a2, r2, rfl, h⟩ := h
  replace h := onil_some h
  obtain ⟨rfl, h⟩ := h
  obtain ⟨x0, qh0, h⟩ := obind_some h
  obtain ⟨a1, qh1, h⟩ := obind_some h
  obtain ⟨b2, qh2, h⟩ := obind_some h
  rw [argV_eq ok qh0, argV_eq ok qh1, argV_eq ok qh2]
  exact call_of (phiE_nat _ _) hs ok mixed Try.func100 (c := spec_l1In_code) (by kernel_rfl) (spec_l1In_lo n) (by kernel_rfl) (by kernel_rfl) (by kernel_rfl) spec_l1In_de ((spec_l1In_tie n x0 a1 b2).trans h)
noncomputable def spec_l3All_code : Code := match Try.f250.body with | some c => c | none => .skip
def spec_l3All_2_sv : List Sv := [.one (.arr 3), .one (.int .i64), .one (.int .i64), .one (.int .i64)]
def spec_l3All_2_so : List So := []
def spec_l3All_2_emb (c : List Int × Int × Int) (x : Int) : EVs T spec_l3All_2_sv × EOs T spec_l3All_2_so := ((c.1, c.2.1, c.2.2, x, ()), ())
def spec_l3All_2_prj (y : EVs T spec_l3All_2_sv × EOs T spec_l3All_2_so) : (List Int × Int × Int) × Int := ((y.1.1, y.1.2.1, y.1.2.2.1), (y.1.2.2.2.1))
def spec_l3All_2_b (n : Nat) {R : Type} (K : Ex → Sm.St T → Option R) (c : List Int × Int × Int) (x : Int) (J : Int → Option R) : Option R :=
  spec_l3All_L2 n (K (.exit 0) (stOf (T := T) [] [] [] [] () ())) (fun (y0 : Bool) => K .ret (stOf (T := T) [6] [] [.one (.bool)] [] (y0, ()) ())) J c.1 c.2.1 c.2.2 x
def spec_l3All_2_sp (n : Nat) : LSpec T := mkSpec T ⟨[], [0, 1, 2, 7], []⟩ spec_l3All_2_sv spec_l3All_2_so (List Int × Int × Int) (Int) spec_l3All_2_emb spec_l3All_2_prj (spec_l3All_2_b n)
noncomputable def spec_l3All_2_c : Code := ((loopCodes spec_l3All_code)[0]?).getD .skip
def spec_l3All_ann : Ann := fun id => bif Nat.beq id 3000002 then some ⟨[], [], []⟩ else bif Nat.beq id 2000002 then some ⟨[], [6], []⟩ else none
def spec_l3All_Ls (n : Nat) : Nat → Option (LSpec T) := fun id => bif Nat.beq id 2 then some (spec_l3All_2_sp n) else none
theorem spec_l3All_2_le (n : Nat) : LoopEq (T := T) (Phi n 8) (spec_l3All_Ls n) spec_l3All_ann n spec_l3All_2_c (spec_l3All_2_sp n) := ⟨mkSpec_dec (fun y => rfl), fun c x => by kernel_rfl, fun K J c x => by kernel_rfl⟩
theorem spec_l3All_tie (n : Nat) (list0 : List Int) (a1 : Int) (b2 : Int) : evF (T := T) (Phi n 8) (spec_l3All_Ls n) spec_l3All_ann n Try.f250 (sg 250) [vA T 55 list0, vA T 3 a1, vA T 3 b2] spec_l3All_dec = spec_l3All n list0 a1 b2 := by kernel_rfl
theorem spec_l3All_lo (n : Nat) : LoopsOk (T := T) (Phi n 8) (spec_l3All_Ls n) spec_l3All_ann n spec_l3All_code := loopsOk_all (cs := [spec_l3All_2_c]) (by kernel_rfl) ⟨⟨_, by kernel_rfl, spec_l3All_2_le n⟩, trivial⟩
theorem spec_l3All_ok (n : Nat) : EntOk Try.prog (ents n) (spec_l3All_ent n) := by
  intro hs ar y hg h
  replace h : spec_l3All_D n ar = some y := h
  unfold spec_l3All_D at h
  replace h := ocons_some h
  obtain ⟨a0, r0, rfl, h⟩ := h
  replace h := ocons_some h
  obtain ⟨a1, r1, rfl, h⟩ := h
  replace h := ocons_some h
  obtain ⟨a2, r2, rfl, h⟩ := h
  replace h := onil_some h
  obtain ⟨rfl, h⟩ := h
  obtain ⟨list0, qh0, h⟩ := obind_some h
  obtain ⟨a1, qh1, h⟩ := obind_some h
  obtain ⟨b2, qh2, h⟩ := obind_some h
  rw [argV_eq ok qh0, argV_eq ok qh1, argV_eq ok qh2]
  exact call_of (phiE_nat _ _) hs ok mixed Try.func250 (c := spec_l3All_code) (by kernel_rfl) (spec_l3All_lo n) (by kernel_rfl) (by kernel_rfl) (by kernel_rfl) spec_l3All_de ((spec_l3All_tie n list0 a1 b2).trans h)
noncomputable def spec_SeaOk_code : Code := match Try.f212.body with | some c => c | none => .skip
def spec_SeaOk_4_sv : List Sv := [.one (.ptr 8 0 0), .one (.int .i64)]
def spec_SeaOk_4_so : List So := [.var [.int .i64, .int .i64, .arr 3, .arr 206]]
def spec_SeaOk_4_emb (c : SSea) (x : Int) : EVs T spec_SeaOk_4_sv × EOs T spec_SeaOk_4_so := (((), x, ()), ((c.Wide, c.High, c.Costs, c.Shut, ()), ()))
def spec_SeaOk_4_prj (y : EVs T spec_SeaOk_4_sv × EOs T spec_SeaOk_4_so) : SSea × Int := ((((⟨y.2.1.1, y.2.1.2.1, y.2.1.2.2.1, y.2.1.2.2.2.1⟩ : SSea) : SSea)), (y.1.2.1))
def spec_SeaOk_4_b (n : Nat) {R : Type} (K : Ex → Sm.St T → Option R) (c : SSea) (x : Int) (J : Int → Option R) : Option R :=
  spec_SeaOk_L4 n (K (.exit 0) (stOf (T := T) [] [] [] [] () ())) (fun (y0 : Bool) => K .ret (stOf (T := T) [2] [] [.one (.bool)] [] (y0, ()) ())) J x c
def spec_SeaOk_4_sp (n : Nat) : LSpec T := mkSpec T ⟨[], [1, 3], [8]⟩ spec_SeaOk_4_sv spec_SeaOk_4_so (SSea) (Int) spec_SeaOk_4_emb spec_SeaOk_4_prj (spec_SeaOk_4_b n)
noncomputable def spec_SeaOk_4_c : Code := ((loopCodes spec_SeaOk_code)[0]?).getD .skip
def spec_SeaOk_ann : Ann := fun id => bif Nat.beq id 3000004 then some ⟨[], [], []⟩ else bif Nat.beq id 2000004 then some ⟨[], [2], []⟩ else none
def spec_SeaOk_Ls (n : Nat) : Nat → Option (LSpec T) := fun id => bif Nat.beq id 4 then some (spec_SeaOk_4_sp n) else none
theorem spec_SeaOk_4_le (n : Nat) : LoopEq (T := T) (Phi n 9) (spec_SeaOk_Ls n) spec_SeaOk_ann n spec_SeaOk_4_c (spec_SeaOk_4_sp n) := ⟨mkSpec_dec (fun y => rfl), fun c x => by kernel_rfl, fun K J c x => by kernel_rfl⟩
theorem spec_SeaOk_tie (n : Nat) (s0 : SSea) : evF (T := T) (Phi n 9) (spec_SeaOk_Ls n) spec_SeaOk_ann n Try.f212 (sg 212) [vA T 103 s0] spec_SeaOk_dec = spec_SeaOk n s0 := by kernel_rfl
theorem spec_SeaOk_lo (n : Nat) : LoopsOk (T := T) (Phi n 9) (spec_SeaOk_Ls n) spec_SeaOk_ann n spec_SeaOk_code := loopsOk_all (cs := [spec_SeaOk_4_c]) (by kernel_rfl) ⟨⟨_, by kernel_rfl, spec_SeaOk_4_le n⟩, trivial⟩
theorem spec_SeaOk_ok (n : Nat) : EntOk Try.prog (ents n) (spec_SeaOk_ent n) := by
  intro hs ar y hg h
  replace h : spec_SeaOk_D n ar = some y := h
  unfold spec_SeaOk_D at h
  replace h := ocons_some h
  obtain ⟨a0, r0, rfl, h⟩ := h
  replace h := onil_some h
  obtain ⟨rfl, h⟩ := h
  obtain ⟨s0, qh0, h⟩ := obind_some h
  rw [argV_eq ok qh0]
  exact call_of (phiE_nat _ _) hs ok mixed Try.func212 (c := spec_SeaOk_code) (by kernel_rfl) (spec_SeaOk_lo n) (by kernel_rfl) (by kernel_rfl) (by kernel_rfl) spec_SeaOk_de ((spec_SeaOk_tie n s0).trans h)
noncomputable def spec_l7Place_code : Code := match Try.f146.body with | some c => c | none => .skip
def spec_l7Place_ann : Ann := fun id => none
def spec_l7Place_Ls (n : Nat) : Nat → Option (LSpec T) := fun id => none
theorem spec_l7Place_tie (n : Nat) (s0 : SSea) (p1 : Int) : evF (T := T) (Phi n 10) (spec_l7Place_Ls n) spec_l7Place_ann n Try.f146 (sg 146) [vA T 103 s0, vA T 3 p1] spec_l7Place_dec = spec_l7Place n s0 p1 := by kernel_rfl
theorem spec_l7Place_lo (n : Nat) : LoopsOk (T := T) (Phi n 10) (spec_l7Place_Ls n) spec_l7Place_ann n spec_l7Place_code := loopsOk_all (cs := []) (by kernel_rfl) trivial
theorem spec_l7Place_ok (n : Nat) : EntOk Try.prog (ents n) (spec_l7Place_ent n) := by
  intro hs ar y hg h
  replace h : spec_l7Place_D n ar = some y := h
  unfold spec_l7Place_D at h
  replace h := ocons_some h
  obtain ⟨a0, r0, rfl, h⟩ := h
  replace h := ocons_some h
  obtain ⟨a1, r1, rfl, h⟩ := h
  replace h := onil_some h
  obtain ⟨rfl, h⟩ := h
  obtain ⟨s0, qh0, h⟩ := obind_some h
  obtain ⟨p1, qh1, h⟩ := obind_some h
  rw [argV_eq ok qh0, argV_eq ok qh1]
  exact call_of (phiE_nat _ _) hs ok mixed Try.func146 (c := spec_l7Place_code) (by kernel_rfl) (spec_l7Place_lo n) (by kernel_rfl) (by kernel_rfl) (by kernel_rfl) spec_l7Place_de ((spec_l7Place_tie n s0 p1).trans h)
noncomputable def spec_l7Next_code : Code := match Try.f147.body with | some c => c | none => .skip
def spec_l7Next_ann : Ann := fun id => none
def spec_l7Next_Ls (n : Nat) : Nat → Option (LSpec T) := fun id => none
theorem spec_l7Next_tie (n : Nat) (s0 : SSea) (a1 : Int) (b2 : Int) : evF (T := T) (Phi n 11) (spec_l7Next_Ls n) spec_l7Next_ann n Try.f147 (sg 147) [vA T 103 s0, vA T 3 a1, vA T 3 b2] spec_l7Next_dec = spec_l7Next n s0 a1 b2 := by kernel_rfl
theorem spec_l7Next_lo (n : Nat) : LoopsOk (T := T) (Phi n 11) (spec_l7Next_Ls n) spec_l7Next_ann n spec_l7Next_code := loopsOk_all (cs := []) (by kernel_rfl) trivial
theorem spec_l7Next_ok (n : Nat) : EntOk Try.prog (ents n) (spec_l7Next_ent n) := by
  intro hs ar y hg h
  replace h : spec_l7Next_D n ar = some y := h
  unfold spec_l7Next_D at h
  replace h := ocons_some h
  obtain ⟨a0, r0, rfl, h⟩ := h
  replace h := ocons_some h
  obtain ⟨a1, r1, rfl, h⟩ := h
  replace h := ocons_some h
  obtain ⟨a2, r2, rfl, h⟩ := h
  replace h := onil_some h
  obtain ⟨rfl, h⟩ := h
  obtain ⟨s0, qh0, h⟩ := obind_some h
  obtain ⟨a1, qh1, h⟩ := obind_some h
  obtain ⟨b2, qh2, h⟩ := obind_some h
  rw [argV_eq ok qh0, argV_eq ok qh1, argV_eq ok qh2]
  exact call_of (phiE_nat _ _) hs ok mixed Try.func147 (c := spec_l7Next_code) (by kernel_rfl) (spec_l7Next_lo n) (by kernel_rfl) (by kernel_rfl) (by kernel_rfl) spec_l7Next_de ((spec_l7Next_tie n s0 a1 b2).trans h)
noncomputable def spec_Cheapest_code : Code := match Try.f145.body with | some c => c | none => .skip
def spec_Cheapest_5_sv : List Sv := [.one (.int .i64), .one (.ptr 16 0 0), .one (.own 3000000 3 false), .one (.int .i64)]
def spec_Cheapest_5_so : List So := [.var [.int .i64, .int .i64, .arr 3, .arr 206], .arr 3 false]
def spec_Cheapest_5_emb (c : Int × SSea) (x : Int × List Int) : EVs T spec_Cheapest_5_sv × EOs T spec_Cheapest_5_so := ((c.1, (), (), x.1, ()), ((c.2.Wide, c.2.High, c.2.Costs, c.2.Shut, ()), x.2, ()))
def spec_Cheapest_5_prj (y : EVs T spec_Cheapest_5_sv × EOs T spec_Cheapest_5_so) : (Int × SSea) × (Int × List Int) := ((y.1.1, ((⟨y.2.1.1, y.2.1.2.1, y.2.1.2.2.1, y.2.1.2.2.2.1⟩ : SSea) : SSea)), (y.1.2.2.2.1, y.2.2.1))
def spec_Cheapest_5_b (n : Nat) {R : Type} (K : Ex → Sm.St T → Option R) (c : Int × SSea) (x : Int × List Int) (J : (Int × List Int) → Option R) : Option R :=
  spec_Cheapest_L5 n (fun (y2 : List Int) => K (.exit 0) (stOf (T := T) [1, 2, 6] [16, 3000000] [.one (.int .i64), .one (.ptr 16 0 0), .one (.own 3000000 3 false)] [.var [.int .i64, .int .i64, .arr 3, .arr 206], .arr 3 false] (c.1, (), (), ()) ((c.2.Wide, c.2.High, c.2.Costs, c.2.Shut, ()), y2, ()))) (fun z0 z1 => J (z0, z1)) c.1 x.1 c.2 x.2
def spec_Cheapest_5_sp (n : Nat) : LSpec T := mkSpec T ⟨[((.reg 6), 3000000, 3)], [1, 2, 6, 7], [16, 3000000]⟩ spec_Cheapest_5_sv spec_Cheapest_5_so (Int × SSea) (Int × List Int) spec_Cheapest_5_emb spec_Cheapest_5_prj (spec_Cheapest_5_b n)
noncomputable def spec_Cheapest_5_c : Code := ((loopCodes spec_Cheapest_code)[0]?).getD .skip
def spec_Cheapest_12_sv : List Sv := [.one (.ptr 16 0 0), .one (.own 3000000 3 false), .one (.bool)]
def spec_Cheapest_12_so : List So := [.var [.int .i64, .int .i64, .arr 3, .arr 206], .arr 3 false]
def spec_Cheapest_12_emb (c : SSea) (x : Bool × List Int) : EVs T spec_Cheapest_12_sv × EOs T spec_Cheapest_12_so := (((), (), x.1, ()), ((c.Wide, c.High, c.Costs, c.Shut, ()), x.2, ()))
def spec_Cheapest_12_prj (y : EVs T spec_Cheapest_12_sv × EOs T spec_Cheapest_12_so) : SSea × (Bool × List Int) := ((((⟨y.2.1.1, y.2.1.2.1, y.2.1.2.2.1, y.2.1.2.2.2.1⟩ : SSea) : SSea)), (y.1.2.2.1, y.2.2.1))
def spec_Cheapest_12_b (n : Nat) {R : Type} (K : Ex → Sm.St T → Option R) (c : SSea) (x : Bool × List Int) (J : (Bool × List Int) → Option R) : Option R :=
  spec_Cheapest_L12 n (fun (y0 : List Int) => K (.exit 2) (stOf (T := T) [6] [3000000] [.one (.own 3000000 3 false)] [.arr 3 false] ((), ()) (y0, ()))) (fun z0 z1 => J (z0, z1)) x.1 c x.2
def spec_Cheapest_12_sp (n : Nat) : LSpec T := mkSpec T ⟨[((.reg 6), 3000000, 3)], [2, 6, 8], [16, 3000000]⟩ spec_Cheapest_12_sv spec_Cheapest_12_so (SSea) (Bool × List Int) spec_Cheapest_12_emb spec_Cheapest_12_prj (spec_Cheapest_12_b n)
noncomputable def spec_Cheapest_12_c : Code := ((loopCodes spec_Cheapest_code)[1]?).getD .skip
def spec_Cheapest_15_sv : List Sv := [.one (.ptr 16 0 0), .one (.own 3000000 3 false), .one (.bool), .one (.int .i64)]
def spec_Cheapest_15_so : List So := [.var [.int .i64, .int .i64, .arr 3, .arr 206], .arr 3 false]
def spec_Cheapest_15_emb (c : SSea) (x : Bool × Int × List Int) : EVs T spec_Cheapest_15_sv × EOs T spec_Cheapest_15_so := (((), (), x.1, x.2.1, ()), ((c.Wide, c.High, c.Costs, c.Shut, ()), x.2.2, ()))
def spec_Cheapest_15_prj (y : EVs T spec_Cheapest_15_sv × EOs T spec_Cheapest_15_so) : SSea × (Bool × Int × List Int) := ((((⟨y.2.1.1, y.2.1.2.1, y.2.1.2.2.1, y.2.1.2.2.2.1⟩ : SSea) : SSea)), (y.1.2.2.1, y.1.2.2.2.1, y.2.2.1))
def spec_Cheapest_15_b (n : Nat) {R : Type} (K : Ex → Sm.St T → Option R) (c : SSea) (x : Bool × Int × List Int) (J : (Bool × Int × List Int) → Option R) : Option R :=
  spec_Cheapest_L15 n (fun (y0 : Bool) (y2 : List Int) => K (.exit 4) (stOf (T := T) [2, 6, 8] [16, 3000000] [.one (.ptr 16 0 0), .one (.own 3000000 3 false), .one (.bool)] [.var [.int .i64, .int .i64, .arr 3, .arr 206], .arr 3 false] ((), (), y0, ()) ((c.Wide, c.High, c.Costs, c.Shut, ()), y2, ()))) (fun z0 z1 z2 => J (z0, z1, z2)) x.1 x.2.1 c x.2.2
def spec_Cheapest_15_sp (n : Nat) : LSpec T := mkSpec T ⟨[((.reg 6), 3000000, 3)], [2, 6, 8, 9], [16, 3000000]⟩ spec_Cheapest_15_sv spec_Cheapest_15_so (SSea) (Bool × Int × List Int) spec_Cheapest_15_emb spec_Cheapest_15_prj (spec_Cheapest_15_b n)
noncomputable def spec_Cheapest_15_c : Code := ((loopCodes spec_Cheapest_code)[2]?).getD .skip
def spec_Cheapest_18_sv : List Sv := [.one (.ptr 16 0 0), .one (.own 3000000 3 false), .one (.bool), .one (.int .i64), .one (.int .i64)]
def spec_Cheapest_18_so : List So := [.var [.int .i64, .int .i64, .arr 3, .arr 206], .arr 3 false]
def spec_Cheapest_18_emb (c : Int × SSea) (x : Bool × Int × List Int) : EVs T spec_Cheapest_18_sv × EOs T spec_Cheapest_18_so := (((), (), x.1, c.1, x.2.1, ()), ((c.2.Wide, c.2.High, c.2.Costs, c.2.Shut, ()), x.2.2, ()))
def spec_Cheapest_18_prj (y : EVs T spec_Cheapest_18_sv × EOs T spec_Cheapest_18_so) : (Int × SSea) × (Bool × Int × List Int) := ((y.1.2.2.2.1, ((⟨y.2.1.1, y.2.1.2.1, y.2.1.2.2.1, y.2.1.2.2.2.1⟩ : SSea) : SSea)), (y.1.2.2.1, y.1.2.2.2.2.1, y.2.2.1))
def spec_Cheapest_18_b (n : Nat) {R : Type} (K : Ex → Sm.St T → Option R) (c : Int × SSea) (x : Bool × Int × List Int) (J : (Bool × Int × List Int) → Option R) : Option R :=
  spec_Cheapest_L18 n (fun (y0 : Bool) (y3 : List Int) => K (.exit 6) (stOf (T := T) [2, 6, 8, 9] [16, 3000000] [.one (.ptr 16 0 0), .one (.own 3000000 3 false), .one (.bool), .one (.int .i64)] [.var [.int .i64, .int .i64, .arr 3, .arr 206], .arr 3 false] ((), (), y0, c.1, ()) ((c.2.Wide, c.2.High, c.2.Costs, c.2.Shut, ()), y3, ()))) (fun z0 z1 z2 => J (z0, z1, z2)) x.1 c.1 x.2.1 c.2 x.2.2
def spec_Cheapest_18_sp (n : Nat) : LSpec T := mkSpec T ⟨[((.reg 6), 3000000, 3)], [2, 6, 8, 9, 10], [16, 3000000]⟩ spec_Cheapest_18_sv spec_Cheapest_18_so (Int × SSea) (Bool × Int × List Int) spec_Cheapest_18_emb spec_Cheapest_18_prj (spec_Cheapest_18_b n)
noncomputable def spec_Cheapest_18_c : Code := ((loopCodes spec_Cheapest_code)[3]?).getD .skip
def spec_Cheapest_ann : Ann := fun id => bif Nat.beq id 3000005 then some ⟨[((.reg 6), 3000000, 3)], [1, 2, 6], [16, 3000000]⟩ else bif Nat.beq id 5000012 then some ⟨[((.reg 6), 3000000, 3)], [6], [3000000]⟩ else bif Nat.beq id 7000015 then some ⟨[((.reg 6), 3000000, 3)], [2, 6, 8], [16, 3000000]⟩ else bif Nat.beq id 9000018 then some ⟨[((.reg 6), 3000000, 3)], [2, 6, 8, 9], [16, 3000000]⟩ else none
def spec_Cheapest_Ls (n : Nat) : Nat → Option (LSpec T) := fun id => bif Nat.beq id 5 then some (spec_Cheapest_5_sp n) else bif Nat.beq id 12 then some (spec_Cheapest_12_sp n) else bif Nat.beq id 15 then some (spec_Cheapest_15_sp n) else bif Nat.beq id 18 then some (spec_Cheapest_18_sp n) else none
theorem spec_Cheapest_5_le (n : Nat) : LoopEq (T := T) (Phi n 12) (spec_Cheapest_Ls n) spec_Cheapest_ann n spec_Cheapest_5_c (spec_Cheapest_5_sp n) := ⟨mkSpec_dec (fun y => rfl), fun c x => by kernel_rfl, fun K J c x => by kernel_rfl⟩
theorem spec_Cheapest_12_le (n : Nat) : LoopEq (T := T) (Phi n 12) (spec_Cheapest_Ls n) spec_Cheapest_ann n spec_Cheapest_12_c (spec_Cheapest_12_sp n) := ⟨mkSpec_dec (fun y => rfl), fun c x => by kernel_rfl, fun K J c x => by kernel_rfl⟩
theorem spec_Cheapest_15_le (n : Nat) : LoopEq (T := T) (Phi n 12) (spec_Cheapest_Ls n) spec_Cheapest_ann n spec_Cheapest_15_c (spec_Cheapest_15_sp n) := ⟨mkSpec_dec (fun y => rfl), fun c x => by kernel_rfl, fun K J c x => by kernel_rfl⟩
theorem spec_Cheapest_18_le (n : Nat) : LoopEq (T := T) (Phi n 12) (spec_Cheapest_Ls n) spec_Cheapest_ann n spec_Cheapest_18_c (spec_Cheapest_18_sp n) := ⟨mkSpec_dec (fun y => rfl), fun c x => by kernel_rfl, fun K J c x => by kernel_rfl⟩
theorem spec_Cheapest_tie (n : Nat) (s0 : SSea) (from1 : Int) : evF (T := T) (Phi n 12) (spec_Cheapest_Ls n) spec_Cheapest_ann n Try.f145 (sg 145) [vA T 103 s0, vA T 3 from1] spec_Cheapest_dec = spec_Cheapest n s0 from1 := by kernel_rfl
theorem spec_Cheapest_lo (n : Nat) : LoopsOk (T := T) (Phi n 12) (spec_Cheapest_Ls n) spec_Cheapest_ann n spec_Cheapest_code := loopsOk_all (cs := [spec_Cheapest_5_c, spec_Cheapest_12_c, spec_Cheapest_15_c, spec_Cheapest_18_c]) (by kernel_rfl) ⟨⟨_, by kernel_rfl, spec_Cheapest_5_le n⟩, ⟨_, by kernel_rfl, spec_Cheapest_12_le n⟩, ⟨_, by kernel_rfl, spec_Cheapest_15_le n⟩, ⟨_, by kernel_rfl, spec_Cheapest_18_le n⟩, trivial⟩
theorem spec_Cheapest_ok (n : Nat) : EntOk Try.prog (ents n) (spec_Cheapest_ent n) := by
  intro hs ar y hg h
  replace h : spec_Cheapest_D n ar = some y := h
  unfold spec_Cheapest_D at h
  replace h := ocons_some h
  obtain ⟨a0, r0, rfl, h⟩ := h
  replace h := ocons_some h
  obtain ⟨a1, r1, rfl, h⟩ := h
  replace h := onil_some h
  obtain ⟨rfl, h⟩ := h
  obtain ⟨s0, qh0, h⟩ := obind_some h
  obtain ⟨from1, qh1, h⟩ := obind_some h
  rw [argV_eq ok qh0, argV_eq ok qh1]
  exact call_of (phiE_nat _ _) hs ok mixed Try.func145 (c := spec_Cheapest_code) (by kernel_rfl) (spec_Cheapest_lo n) (by kernel_rfl) (by kernel_rfl) (by kernel_rfl) spec_Cheapest_de ((spec_Cheapest_tie n s0 from1).trans h)
noncomputable def spec_WayOf_code : Code := match Try.f74.body with | some c => c | none => .skip
def spec_WayOf_6_sv : List Sv := [.one (.int .i64), .one (.ptr 24 0 0), .one (.own 3000000 3 false), .one (.own 3000001 3 false), .one (.int .i64)]
def spec_WayOf_6_so : List So := [.var [.int .i64, .int .i64, .arr 3, .arr 206], .arr 3 false, .arr 3 false]
def spec_WayOf_6_emb (c : Int × SSea × List Int) (x : Int × List Int) : EVs T spec_WayOf_6_sv × EOs T spec_WayOf_6_so := ((c.1, (), (), (), x.1, ()), ((c.2.1.Wide, c.2.1.High, c.2.1.Costs, c.2.1.Shut, ()), c.2.2, x.2, ()))
def spec_WayOf_6_prj (y : EVs T spec_WayOf_6_sv × EOs T spec_WayOf_6_so) : (Int × SSea × List Int) × (Int × List Int) := ((y.1.1, ((⟨y.2.1.1, y.2.1.2.1, y.2.1.2.2.1, y.2.1.2.2.2.1⟩ : SSea) : SSea), y.2.2.1), (y.1.2.2.2.2.1, y.2.2.2.1))
def spec_WayOf_6_b (n : Nat) {R : Type} (K : Ex → Sm.St T → Option R) (c : Int × SSea × List Int) (x : Int × List Int) (J : (Int × List Int) → Option R) : Option R :=
  spec_WayOf_L6 n (fun (y0 : List Int) => K (.exit 0) (stOf (T := T) [10] [3000001] [.one (.own 3000001 3 false)] [.arr 3 false] ((), ()) (y0, ()))) (fun z0 z1 => J (z0, z1)) c.1 x.1 c.2.1 c.2.2 x.2
def spec_WayOf_6_sp (n : Nat) : LSpec T := mkSpec T ⟨[((.reg 8), 3000000, 3), ((.reg 10), 3000001, 3)], [1, 3, 8, 10, 11], [24, 3000000, 3000001]⟩ spec_WayOf_6_sv spec_WayOf_6_so (Int × SSea × List Int) (Int × List Int) spec_WayOf_6_emb spec_WayOf_6_prj (spec_WayOf_6_b n)
noncomputable def spec_WayOf_6_c : Code := ((loopCodes spec_WayOf_code)[0]?).getD .skip
def spec_WayOf_8_sv : List Sv := [.one (.int .i64), .one (.ptr 24 0 0), .one (.own 3000000 3 false), .one (.own 3000001 3 false), .one (.int .i64), .one (.int .i64)]
def spec_WayOf_8_so : List So := [.var [.int .i64, .int .i64, .arr 3, .arr 206], .arr 3 false, .arr 3 false]
def spec_WayOf_8_emb (c : Int × Int × SSea × List Int × List Int) (x : Int) : EVs T spec_WayOf_8_sv × EOs T spec_WayOf_8_so := ((c.1, (), (), (), c.2.1, x, ()), ((c.2.2.1.Wide, c.2.2.1.High, c.2.2.1.Costs, c.2.2.1.Shut, ()), c.2.2.2.1, c.2.2.2.2, ()))
def spec_WayOf_8_prj (y : EVs T spec_WayOf_8_sv × EOs T spec_WayOf_8_so) : (Int × Int × SSea × List Int × List Int) × Int := ((y.1.1, y.1.2.2.2.2.1, ((⟨y.2.1.1, y.2.1.2.1, y.2.1.2.2.1, y.2.1.2.2.2.1⟩ : SSea) : SSea), y.2.2.1, y.2.2.2.1), (y.1.2.2.2.2.2.1))
def spec_WayOf_8_b (n : Nat) {R : Type} (K : Ex → Sm.St T → Option R) (c : Int × Int × SSea × List Int × List Int) (x : Int) (J : Int → Option R) : Option R :=
  spec_WayOf_L8 n (fun (y1 : Int) => K (.exit 2) (stOf (T := T) [1, 3, 8, 10, 11] [24, 3000000, 3000001] [.one (.int .i64), .one (.ptr 24 0 0), .one (.own 3000000 3 false), .one (.own 3000001 3 false), .one (.int .i64)] [.var [.int .i64, .int .i64, .arr 3, .arr 206], .arr 3 false, .arr 3 false] (c.1, (), (), (), y1, ()) ((c.2.2.1.Wide, c.2.2.1.High, c.2.2.1.Costs, c.2.2.1.Shut, ()), c.2.2.2.1, c.2.2.2.2, ()))) J c.1 c.2.1 x c.2.2.1 c.2.2.2.1 c.2.2.2.2
def spec_WayOf_8_sp (n : Nat) : LSpec T := mkSpec T ⟨[((.reg 8), 3000000, 3), ((.reg 10), 3000001, 3)], [1, 3, 8, 10, 11, 12], [24, 3000000, 3000001]⟩ spec_WayOf_8_sv spec_WayOf_8_so (Int × Int × SSea × List Int × List Int) (Int) spec_WayOf_8_emb spec_WayOf_8_prj (spec_WayOf_8_b n)
noncomputable def spec_WayOf_8_c : Code := ((loopCodes spec_WayOf_code)[1]?).getD .skip
def spec_WayOf_ann : Ann := fun id => bif Nat.beq id 3000006 then some ⟨[((.reg 10), 3000001, 3)], [10], [3000001]⟩ else bif Nat.beq id 5000008 then some ⟨[((.reg 8), 3000000, 3), ((.reg 10), 3000001, 3)], [1, 3, 8, 10, 11], [24, 3000000, 3000001]⟩ else none
def spec_WayOf_Ls (n : Nat) : Nat → Option (LSpec T) := fun id => bif Nat.beq id 6 then some (spec_WayOf_6_sp n) else bif Nat.beq id 8 then some (spec_WayOf_8_sp n) else none
theorem spec_WayOf_6_le (n : Nat) : LoopEq (T := T) (Phi n 13) (spec_WayOf_Ls n) spec_WayOf_ann n spec_WayOf_6_c (spec_WayOf_6_sp n) := ⟨mkSpec_dec (fun y => rfl), fun c x => by kernel_rfl, fun K J c x => by kernel_rfl⟩
theorem spec_WayOf_8_le (n : Nat) : LoopEq (T := T) (Phi n 13) (spec_WayOf_Ls n) spec_WayOf_ann n spec_WayOf_8_c (spec_WayOf_8_sp n) := ⟨mkSpec_dec (fun y => rfl), fun c x => by kernel_rfl, fun K J c x => by kernel_rfl⟩
theorem spec_WayOf_tie (n : Nat) (s0 : SSea) (from1 : Int) (to2 : Int) : evF (T := T) (Phi n 13) (spec_WayOf_Ls n) spec_WayOf_ann n Try.f74 (sg 74) [vA T 103 s0, vA T 3 from1, vA T 3 to2] spec_WayOf_dec = spec_WayOf n s0 from1 to2 := by kernel_rfl
theorem spec_WayOf_lo (n : Nat) : LoopsOk (T := T) (Phi n 13) (spec_WayOf_Ls n) spec_WayOf_ann n spec_WayOf_code := loopsOk_all (cs := [spec_WayOf_6_c, spec_WayOf_8_c]) (by kernel_rfl) ⟨⟨_, by kernel_rfl, spec_WayOf_6_le n⟩, ⟨_, by kernel_rfl, spec_WayOf_8_le n⟩, trivial⟩
theorem spec_WayOf_ok (n : Nat) : EntOk Try.prog (ents n) (spec_WayOf_ent n) := by
  intro hs ar y hg h
  replace h : spec_WayOf_D n ar = some y := h
  unfold spec_WayOf_D at h
  replace h := ocons_some h
  obtain ⟨a0, r0, rfl, h⟩ := h
  replace h := ocons_some h
  obtain ⟨a1, r1, rfl, h⟩ := h
  replace h := ocons_some h
  obtain ⟨a2, r2, rfl, h⟩ := h
  replace h := onil_some h
  obtain ⟨rfl, h⟩ := h
  obtain ⟨s0, qh0, h⟩ := obind_some h
  obtain ⟨from1, qh1, h⟩ := obind_some h
  obtain ⟨to2, qh2, h⟩ := obind_some h
  rw [argV_eq ok qh0, argV_eq ok qh1, argV_eq ok qh2]
  exact call_of (phiE_nat _ _) hs ok mixed Try.func74 (c := spec_WayOf_code) (by kernel_rfl) (spec_WayOf_lo n) (by kernel_rfl) (by kernel_rfl) (by kernel_rfl) spec_WayOf_de ((spec_WayOf_tie n s0 from1 to2).trans h)
noncomputable def impl_in_code : Code := match Try.f119.body with | some c => c | none => .skip
def impl_in_ann : Ann := fun id => none
def impl_in_Ls (n : Nat) : Nat → Option (LSpec T) := fun id => none
theorem impl_in_tie (n : Nat) (n0 : Int) (least1 : Int) (most2 : Int) : evF (T := T) (Phi n 14) (impl_in_Ls n) impl_in_ann n Try.f119 (sg 119) [vA T 3 n0, vA T 3 least1, vA T 3 most2] impl_in_dec = impl_in n n0 least1 most2 := by kernel_rfl
theorem impl_in_lo (n : Nat) : LoopsOk (T := T) (Phi n 14) (impl_in_Ls n) impl_in_ann n impl_in_code := loopsOk_all (cs := []) (by kernel_rfl) trivial
theorem impl_in_ok (n : Nat) : EntOk Try.prog (ents n) (impl_in_ent n) := by
  intro hs ar y hg h
  replace h : impl_in_D n ar = some y := h
  unfold impl_in_D at h
  replace h := ocons_some h
  obtain ⟨a0, r0, rfl, h⟩ := h
  replace h := ocons_some h
  obtain ⟨a1, r1, rfl, h⟩ := h
  replace h := ocons_some h
  obtain ⟨a2, r2, rfl, h⟩ := h
  replace h := onil_some h
  obtain ⟨rfl, h⟩ := h
  obtain ⟨n0, qh0, h⟩ := obind_some h
  obtain ⟨least1, qh1, h⟩ := obind_some h
  obtain ⟨most2, qh2, h⟩ := obind_some h
  rw [argV_eq ok qh0, argV_eq ok qh1, argV_eq ok qh2]
  exact call_of (phiE_nat _ _) hs ok mixed Try.func119 (c := impl_in_code) (by kernel_rfl) (impl_in_lo n) (by kernel_rfl) (by kernel_rfl) (by kernel_rfl) impl_in_de ((impl_in_tie n n0 least1 most2).trans h)
noncomputable def impl_all_1_code : Code := match Try.f196.body with | some c => c | none => .skip
def impl_all_1_ann : Ann := fun id => none
def impl_all_1_Ls (n : Nat) : Nat → Option (LSpec T) := fun id => none
theorem impl_all_1_tie (n : Nat) (n0 : Int) (a1 : Int) (a2 : Int) : evF (T := T) (Phi n 15) (impl_all_1_Ls n) impl_all_1_ann n Try.f196 (sg 196) [vA T 3 n0, .ptr 3 a1, .ptr 3 a2] impl_all_1_dec = impl_all_1 n n0 a1 a2 := by kernel_rfl
theorem impl_all_1_lo (n : Nat) : LoopsOk (T := T) (Phi n 15) (impl_all_1_Ls n) impl_all_1_ann n impl_all_1_code := loopsOk_all (cs := []) (by kernel_rfl) trivial
theorem impl_all_1_ok (n : Nat) : EntOk Try.prog (ents n) (impl_all_1_ent n) := by
  intro hs ar y hg h
  replace h : impl_all_1_D n ar = some y := h
  unfold impl_all_1_D at h
  replace h := ocons_some h
  obtain ⟨a0, r0, rfl, h⟩ := h
  replace h := ocons_some h
  obtain ⟨a1, r1, rfl, h⟩ := h
  replace h := ocons_some h
  obtain ⟨a2, r2, rfl, h⟩ := h
  replace h := onil_some h
  obtain ⟨rfl, h⟩ := h
  obtain ⟨n0, qh0, h⟩ := obind_some h
  obtain ⟨a1, qh1, h⟩ := obind_some h
  obtain ⟨a2, qh2, h⟩ := obind_some h
  rw [argV_eq ok qh0, argP_eq qh1, argP_eq qh2]
  exact call_of (phiE_nat _ _) hs ok mixed Try.func196 (c := impl_all_1_code) (by kernel_rfl) (impl_all_1_lo n) (by kernel_rfl) (by kernel_rfl) (by kernel_rfl) impl_all_1_de ((impl_all_1_tie n n0 a1 a2).trans h)
noncomputable def slices_IndexFunc_int_int__impl_all_1_code : Code := match Try.f222.body with | some c => c | none => .skip
def slices_IndexFunc_int_int__impl_all_1_2_sv : List Sv := [.one (.arr 3), .one (.fnr 196 [3, 3]), .one (.int .i64), .one (.int .i64)]
def slices_IndexFunc_int_int__impl_all_1_2_so : List So := []
def slices_IndexFunc_int_int__impl_all_1_2_emb (c : List Int × Int × Int × Int) (x : Int) : EVs T slices_IndexFunc_int_int__impl_all_1_2_sv × EOs T slices_IndexFunc_int_int__impl_all_1_2_so := ((c.1, (c.2.1, c.2.2.1, ()), c.2.2.2, x, ()), ())
def slices_IndexFunc_int_int__impl_all_1_2_prj (y : EVs T slices_IndexFunc_int_int__impl_all_1_2_sv × EOs T slices_IndexFunc_int_int__impl_all_1_2_so) : (List Int × Int × Int × Int) × Int := ((y.1.1, y.1.2.1.1, y.1.2.1.2.1, y.1.2.2.1), (y.1.2.2.2.1))
def slices_IndexFunc_int_int__impl_all_1_2_b (n : Nat) {R : Type} (K : Ex → Sm.St T → Option R) (c : List Int × Int × Int × Int) (x : Int) (J : Int → Option R) : Option R :=
  slices_IndexFunc_int_int__impl_all_1_L2 n (K (.exit 0) (stOf (T := T) [] [] [] [] () ())) (fun (y0 : Int) => K .ret (stOf (T := T) [4] [] [.one (.int .i64)] [] (y0, ()) ())) J c.1 c.2.1 c.2.2.1 c.2.2.2 x
def slices_IndexFunc_int_int__impl_all_1_2_sp (n : Nat) : LSpec T := mkSpec T ⟨[], [0, 1, 7, 8], []⟩ slices_IndexFunc_int_int__impl_all_1_2_sv slices_IndexFunc_int_int__impl_all_1_2_so (List Int × Int × Int × Int) (Int) slices_IndexFunc_int_int__impl_all_1_2_emb slices_IndexFunc_int_int__impl_all_1_2_prj (slices_IndexFunc_int_int__impl_all_1_2_b n)
noncomputable def slices_IndexFunc_int_int__impl_all_1_2_c : Code := ((loopCodes slices_IndexFunc_int_int__impl_all_1_code)[0]?).getD .skip
def slices_IndexFunc_int_int__impl_all_1_ann : Ann := fun id => bif Nat.beq id 3000002 then some ⟨[], [], []⟩ else bif Nat.beq id 2000002 then some ⟨[], [4], []⟩ else none
def slices_IndexFunc_int_int__impl_all_1_Ls (n : Nat) : Nat → Option (LSpec T) := fun id => bif Nat.beq id 2 then some (slices_IndexFunc_int_int__impl_all_1_2_sp n) else none
theorem slices_IndexFunc_int_int__impl_all_1_2_le (n : Nat) : LoopEq (T := T) (Phi n 16) (slices_IndexFunc_int_int__impl_all_1_Ls n) slices_IndexFunc_int_int__impl_all_1_ann n slices_IndexFunc_int_int__impl_all_1_2_c (slices_IndexFunc_int_int__impl_all_1_2_sp n) := ⟨mkSpec_dec (fun y => rfl), fun c x => by kernel_rfl, fun K J c x => by kernel_rfl⟩
theorem slices_IndexFunc_int_int__impl_all_1_tie (n : Nat) (s0 : List Int) (f1c0 : Int) (f1c1 : Int) : evF (T := T) (Phi n 16) (slices_IndexFunc_int_int__impl_all_1_Ls n) slices_IndexFunc_int_int__impl_all_1_ann n Try.f222 (sg 222) [vA T 55 s0, .fn 196 [.ptr 3 f1c0, .ptr 3 f1c1]] slices_IndexFunc_int_int__impl_all_1_dec = slices_IndexFunc_int_int__impl_all_1 n s0 f1c0 f1c1 := by kernel_rfl
theorem slices_IndexFunc_int_int__impl_all_1_lo (n : Nat) : LoopsOk (T := T) (Phi n 16) (slices_IndexFunc_int_int__impl_all_1_Ls n) slices_IndexFunc_int_int__impl_all_1_ann n slices_IndexFunc_int_int__impl_all_1_code := loopsOk_all (cs := [slices_IndexFunc_int_int__impl_all_1_2_c]) (by kernel_rfl) ⟨⟨_, by kernel_rfl, slices_IndexFunc_int_int__impl_all_1_2_le n⟩, trivial⟩
theorem slices_IndexFunc_int_int__impl_all_1_ok (n : Nat) : EntOk Try.prog (ents n) (slices_IndexFunc_int_int__impl_all_1_ent n) := by
  intro hs ar y hg h
  replace h : slices_IndexFunc_int_int__impl_all_1_D n ar = some y := h
  unfold slices_IndexFunc_int_int__impl_all_1_D at h
  split at h
  · obtain ⟨s0, qh0, h⟩ := obind_some h
    obtain ⟨f1c0, qh1, h⟩ := obind_some h
    obtain ⟨f1c1, qh2, h⟩ := obind_some h
    rw [argV_eq ok qh0, argP_eq qh1, argP_eq qh2] at hg ⊢
    cases (show [_] = [196] from natsEq_eq hg)
    exact call_of (phiE_nat _ _) hs ok mixed Try.func222 (c := slices_IndexFunc_int_int__impl_all_1_code) (by kernel_rfl) (slices_IndexFunc_int_int__impl_all_1_lo n) (by kernel_rfl) (by kernel_rfl) (by kernel_rfl) slices_IndexFunc_int_int__impl_all_1_de ((slices_IndexFunc_int_int__impl_all_1_tie n s0 f1c0 f1c1).trans h)
  · cases h
noncomputable def slices_ContainsFunc_int_int__impl_all_1_code : Code := match Try.f158.body with | some c => c | none => .skip
def slices_ContainsFunc_int_int__impl_all_1_ann : Ann := fun id => none
def slices_ContainsFunc_int_int__impl_all_1_Ls (n : Nat) : Nat → Option (LSpec T) := fun id => none
theorem slices_ContainsFunc_int_int__impl_all_1_tie (n : Nat) (s0 : List Int) (f1c0 : Int) (f1c1 : Int) : evF (T := T) (Phi n 17) (slices_ContainsFunc_int_int__impl_all_1_Ls n) slices_ContainsFunc_int_int__impl_all_1_ann n Try.f158 (sg 158) [vA T 55 s0, .fn 196 [.ptr 3 f1c0, .ptr 3 f1c1]] slices_ContainsFunc_int_int__impl_all_1_dec = slices_ContainsFunc_int_int__impl_all_1 n s0 f1c0 f1c1 := by kernel_rfl
theorem slices_ContainsFunc_int_int__impl_all_1_lo (n : Nat) : LoopsOk (T := T) (Phi n 17) (slices_ContainsFunc_int_int__impl_all_1_Ls n) slices_ContainsFunc_int_int__impl_all_1_ann n slices_ContainsFunc_int_int__impl_all_1_code := loopsOk_all (cs := []) (by kernel_rfl) trivial
theorem slices_ContainsFunc_int_int__impl_all_1_ok (n : Nat) : EntOk Try.prog (ents n) (slices_ContainsFunc_int_int__impl_all_1_ent n) := by
  intro hs ar y hg h
  replace h : slices_ContainsFunc_int_int__impl_all_1_D n ar = some y := h
  unfold slices_ContainsFunc_int_int__impl_all_1_D at h
  split at h
  · obtain ⟨s0, qh0, h⟩ := obind_some h
    obtain ⟨f1c0, qh1, h⟩ := obind_some h
    obtain ⟨f1c1, qh2, h⟩ := obind_some h
    rw [argV_eq ok qh0, argP_eq qh1, argP_eq qh2] at hg ⊢
    cases (show [_] = [196] from natsEq_eq hg)
    exact call_of (phiE_nat _ _) hs ok mixed Try.func158 (c := slices_ContainsFunc_int_int__impl_all_1_code) (by kernel_rfl) (slices_ContainsFunc_int_int__impl_all_1_lo n) (by kernel_rfl) (by kernel_rfl) (by kernel_rfl) slices_ContainsFunc_int_int__impl_all_1_de ((slices_ContainsFunc_int_int__impl_all_1_tie n s0 f1c0 f1c1).trans h)
  · cases h
noncomputable def impl_all_code : Code := match Try.f120.body with | some c => c | none => .skip
def impl_all_ann : Ann := fun id => none
def impl_all_Ls (n : Nat) : Nat → Option (LSpec T) := fun id => none
theorem impl_all_tie (n : Nat) (l0 : List Int) (least1 : Int) (most2 : Int) : evF (T := T) (Phi n 18) (impl_all_Ls n) impl_all_ann n Try.f120 (sg 120) [vA T 55 l0, vA T 3 least1, vA T 3 most2] impl_all_dec = impl_all n l0 least1 most2 := by kernel_rfl
theorem impl_all_lo (n : Nat) : LoopsOk (T := T) (Phi n 18) (impl_all_Ls n) impl_all_ann n impl_all_code := loopsOk_all (cs := []) (by kernel_rfl) trivial
theorem impl_all_ok (n : Nat) : EntOk Try.prog (ents n) (impl_all_ent n) := by
  intro hs ar y hg h
  replace h : impl_all_D n ar = some y := h
  unfold impl_all_D at h
  replace h := ocons_some h
  obtain ⟨a0, r0, rfl, h⟩ := h
  replace h := ocons_some h
  obtain ⟨a1, r1, rfl, h⟩ := h
  replace h := ocons_some h
  obtain ⟨a2, r2, rfl, h⟩ := h
  replace h := onil_some h
  obtain ⟨rfl, h⟩ := h
  obtain ⟨l0, qh0, h⟩ := obind_some h
  obtain ⟨least1, qh1, h⟩ := obind_some h
  obtain ⟨most2, qh2, h⟩ := obind_some h
  rw [argV_eq ok qh0, argV_eq ok qh1, argV_eq ok qh2]
  exact call_of (phiE_nat _ _) hs ok mixed Try.func120 (c := impl_all_code) (by kernel_rfl) (impl_all_lo n) (by kernel_rfl) (by kernel_rfl) (by kernel_rfl) impl_all_de ((impl_all_tie n l0 least1 most2).trans h)
noncomputable def impl_SeaOk_code : Code := match Try.f66.body with | some c => c | none => .skip
def impl_SeaOk_4_sv : List Sv := [.one (.arr 206), .one (.int .i64), .one (.int .i64)]
def impl_SeaOk_4_so : List So := []
def impl_SeaOk_4_emb (c : List SClosed × Int) (x : Int) : EVs T impl_SeaOk_4_sv × EOs T impl_SeaOk_4_so := ((c.1, c.2, x, ()), ())
def impl_SeaOk_4_prj (y : EVs T impl_SeaOk_4_sv × EOs T impl_SeaOk_4_so) : (List SClosed × Int) × Int := ((y.1.1, y.1.2.1), (y.1.2.2.1))
def impl_SeaOk_4_b (n : Nat) {R : Type} (K : Ex → Sm.St T → Option R) (c : List SClosed × Int) (x : Int) (J : Int → Option R) : Option R :=
  impl_SeaOk_L4 n (K (.exit 0) (stOf (T := T) [] [] [] [] () ())) (fun (y0 : Bool) => K .ret (stOf (T := T) [2] [] [.one (.bool)] [] (y0, ()) ())) J c.1 c.2 x
def impl_SeaOk_4_sp (n : Nat) : LSpec T := mkSpec T ⟨[], [39, 40, 41], []⟩ impl_SeaOk_4_sv impl_SeaOk_4_so (List SClosed × Int) (Int) impl_SeaOk_4_emb impl_SeaOk_4_prj (impl_SeaOk_4_b n)
noncomputable def impl_SeaOk_4_c : Code := ((loopCodes impl_SeaOk_code)[0]?).getD .skip
def impl_SeaOk_ann : Ann := fun id => bif Nat.beq id 3000004 then some ⟨[], [], []⟩ else bif Nat.beq id 2000004 then some ⟨[], [2], []⟩ else none
def impl_SeaOk_Ls (n : Nat) : Nat → Option (LSpec T) := fun id => bif Nat.beq id 4 then some (impl_SeaOk_4_sp n) else none
theorem impl_SeaOk_4_le (n : Nat) : LoopEq (T := T) (Phi n 19) (impl_SeaOk_Ls n) impl_SeaOk_ann n impl_SeaOk_4_c (impl_SeaOk_4_sp n) := ⟨mkSpec_dec (fun y => rfl), fun c x => by kernel_rfl, fun K J c x => by kernel_rfl⟩
theorem impl_SeaOk_tie (n : Nat) (s0 : SSea) : evF (T := T) (Phi n 19) (impl_SeaOk_Ls n) impl_SeaOk_ann n Try.f66 (sg 66) [vA T 103 s0] impl_SeaOk_dec = impl_SeaOk n s0 := by kernel_rfl
theorem impl_SeaOk_lo (n : Nat) : LoopsOk (T := T) (Phi n 19) (impl_SeaOk_Ls n) impl_SeaOk_ann n impl_SeaOk_code := loopsOk_all (cs := [impl_SeaOk_4_c]) (by kernel_rfl) ⟨⟨_, by kernel_rfl, impl_SeaOk_4_le n⟩, trivial⟩
theorem impl_SeaOk_ok (n : Nat) : EntOk Try.prog (ents n) (impl_SeaOk_ent n) := by
  intro hs ar y hg h
  replace h : impl_SeaOk_D n ar = some y := h
  unfold impl_SeaOk_D at h
  replace h := ocons_some h
  obtain ⟨a0, r0, rfl, h⟩ := h
  replace h := onil_some h
  obtain ⟨rfl, h⟩ := h
  obtain ⟨s0, qh0, h⟩ := obind_some h
  rw [argV_eq ok qh0]
  exact call_of (phiE_nat _ _) hs ok mixed Try.func66 (c := impl_SeaOk_code) (by kernel_rfl) (impl_SeaOk_lo n) (by kernel_rfl) (by kernel_rfl) (by kernel_rfl) impl_SeaOk_de ((impl_SeaOk_tie n s0).trans h)
noncomputable def impl_Sea_place_code : Code := match Try.f140.body with | some c => c | none => .skip
def impl_Sea_place_ann : Ann := fun id => none
def impl_Sea_place_Ls (n : Nat) : Nat → Option (LSpec T) := fun id => none
theorem impl_Sea_place_tie (n : Nat) (s0 : SSea) (p1 : Int) : evF (T := T) (Phi n 20) (impl_Sea_place_Ls n) impl_Sea_place_ann n Try.f140 (sg 140) [vA T 103 s0, vA T 3 p1] impl_Sea_place_dec = impl_Sea_place n s0 p1 := by kernel_rfl
theorem impl_Sea_place_lo (n : Nat) : LoopsOk (T := T) (Phi n 20) (impl_Sea_place_Ls n) impl_Sea_place_ann n impl_Sea_place_code := loopsOk_all (cs := []) (by kernel_rfl) trivial
theorem impl_Sea_place_ok (n : Nat) : EntOk Try.prog (ents n) (impl_Sea_place_ent n) := by
  intro hs ar y hg h
  replace h : impl_Sea_place_D n ar = some y := h
  unfold impl_Sea_place_D at h
  replace h := ocons_some h
  obtain ⟨a0, r0, rfl, h⟩ := h
  replace h := ocons_some h
  obtain ⟨a1, r1, rfl, h⟩ := h
  replace h := onil_some h
  obtain ⟨rfl, h⟩ := h
  obtain ⟨s0, qh0, h⟩ := obind_some h
  obtain ⟨p1, qh1, h⟩ := obind_some h
  rw [argV_eq ok qh0, argV_eq ok qh1]
  exact call_of (phiE_nat _ _) hs ok mixed Try.func140 (c := impl_Sea_place_code) (by kernel_rfl) (impl_Sea_place_lo n) (by kernel_rfl) (by kernel_rfl) (by kernel_rfl) impl_Sea_place_de ((impl_Sea_place_tie n s0 p1).trans h)
noncomputable def impl_Sea_next_code : Code := match Try.f141.body with | some c => c | none => .skip
def impl_Sea_next_ann : Ann := fun id => none
def impl_Sea_next_Ls (n : Nat) : Nat → Option (LSpec T) := fun id => none
theorem impl_Sea_next_tie (n : Nat) (s0 : SSea) (p1 : Int) : evF (T := T) (Phi n 21) (impl_Sea_next_Ls n) impl_Sea_next_ann n Try.f141 (sg 141) [vA T 103 s0, vA T 3 p1] impl_Sea_next_dec = impl_Sea_next n s0 p1 := by kernel_rfl
theorem impl_Sea_next_lo (n : Nat) : LoopsOk (T := T) (Phi n 21) (impl_Sea_next_Ls n) impl_Sea_next_ann n impl_Sea_next_code := loopsOk_all (cs := []) (by kernel_rfl) trivial
theorem impl_Sea_next_ok (n : Nat) : EntOk Try.prog (ents n) (impl_Sea_next_ent n) := by
  intro hs ar y hg h
  replace h : impl_Sea_next_D n ar = some y := h
  unfold impl_Sea_next_D at h
  replace h := ocons_some h
  obtain ⟨a0, r0, rfl, h⟩ := h
  replace h := ocons_some h
  obtain ⟨a1, r1, rfl, h⟩ := h
  replace h := onil_some h
  obtain ⟨rfl, h⟩ := h
  obtain ⟨s0, qh0, h⟩ := obind_some h
  obtain ⟨p1, qh1, h⟩ := obind_some h
  rw [argV_eq ok qh0, argV_eq ok qh1]
  exact call_of (phiE_nat _ _) hs ok mixed Try.func141 (c := impl_Sea_next_code) (by kernel_rfl) (impl_Sea_next_lo n) (by kernel_rfl) (by kernel_rfl) (by kernel_rfl) impl_Sea_next_de ((impl_Sea_next_tie n s0 p1).trans h)
noncomputable def impl_Cheapest_code : Code := match Try.f65.body with | some c => c | none => .skip
def impl_Cheapest_5_sv : List Sv := [.one (.int .i64), .one (.ptr 16 0 0), .one (.own 3000000 3 false), .one (.int .i64), .one (.int .i64)]
def impl_Cheapest_5_so : List So := [.var [.int .i64, .int .i64, .arr 3, .arr 206], .arr 3 false]
def impl_Cheapest_5_emb (c : Int × Int × SSea) (x : Int × List Int) : EVs T impl_Cheapest_5_sv × EOs T impl_Cheapest_5_so := ((c.1, (), (), c.2.1, x.1, ()), ((c.2.2.Wide, c.2.2.High, c.2.2.Costs, c.2.2.Shut, ()), x.2, ()))
def impl_Cheapest_5_prj (y : EVs T impl_Cheapest_5_sv × EOs T impl_Cheapest_5_so) : (Int × Int × SSea) × (Int × List Int) := ((y.1.1, y.1.2.2.2.1, ((⟨y.2.1.1, y.2.1.2.1, y.2.1.2.2.1, y.2.1.2.2.2.1⟩ : SSea) : SSea)), (y.1.2.2.2.2.1, y.2.2.1))
def impl_Cheapest_5_b (n : Nat) {R : Type} (K : Ex → Sm.St T → Option R) (c : Int × Int × SSea) (x : Int × List Int) (J : (Int × List Int) → Option R) : Option R :=
  impl_Cheapest_L5 n (fun (y2 : List Int) => K (.exit 0) (stOf (T := T) [1, 2, 6] [16, 3000000] [.one (.int .i64), .one (.ptr 16 0 0), .one (.own 3000000 3 false)] [.var [.int .i64, .int .i64, .arr 3, .arr 206], .arr 3 false] (c.1, (), (), ()) ((c.2.2.Wide, c.2.2.High, c.2.2.Costs, c.2.2.Shut, ()), y2, ()))) (fun z0 z1 => J (z0, z1)) c.1 c.2.1 x.1 c.2.2 x.2
def impl_Cheapest_5_sp (n : Nat) : LSpec T := mkSpec T ⟨[((.reg 6), 3000000, 3)], [1, 2, 6, 28, 29], [16, 3000000]⟩ impl_Cheapest_5_sv impl_Cheapest_5_so (Int × Int × SSea) (Int × List Int) impl_Cheapest_5_emb impl_Cheapest_5_prj (impl_Cheapest_5_b n)
noncomputable def impl_Cheapest_5_c : Code := ((loopCodes impl_Cheapest_code)[0]?).getD .skip
def impl_Cheapest_13_sv : List Sv := [.one (.ptr 16 0 0), .one (.own 3000000 3 false), .one (.bool)]
def impl_Cheapest_13_so : List So := [.var [.int .i64, .int .i64, .arr 3, .arr 206], .arr 3 false]
def impl_Cheapest_13_emb (c : SSea) (x : Bool × List Int) : EVs T impl_Cheapest_13_sv × EOs T impl_Cheapest_13_so := (((), (), x.1, ()), ((c.Wide, c.High, c.Costs, c.Shut, ()), x.2, ()))
def impl_Cheapest_13_prj (y : EVs T impl_Cheapest_13_sv × EOs T impl_Cheapest_13_so) : SSea × (Bool × List Int) := ((((⟨y.2.1.1, y.2.1.2.1, y.2.1.2.2.1, y.2.1.2.2.2.1⟩ : SSea) : SSea)), (y.1.2.2.1, y.2.2.1))
def impl_Cheapest_13_b (n : Nat) {R : Type} (K : Ex → Sm.St T → Option R) (c : SSea) (x : Bool × List Int) (J : (Bool × List Int) → Option R) : Option R :=
  impl_Cheapest_L13 n (fun (y0 : List Int) => K (.exit 2) (stOf (T := T) [6] [3000000] [.one (.own 3000000 3 false)] [.arr 3 false] ((), ()) (y0, ()))) (fun z0 z1 => J (z0, z1)) x.1 c x.2
def impl_Cheapest_13_sp (n : Nat) : LSpec T := mkSpec T ⟨[((.reg 6), 3000000, 3)], [2, 6, 8], [16, 3000000]⟩ impl_Cheapest_13_sv impl_Cheapest_13_so (SSea) (Bool × List Int) impl_Cheapest_13_emb impl_Cheapest_13_prj (impl_Cheapest_13_b n)
noncomputable def impl_Cheapest_13_c : Code := ((loopCodes impl_Cheapest_code)[1]?).getD .skip
def impl_Cheapest_16_sv : List Sv := [.one (.ptr 16 0 0), .one (.own 3000001 3 false), .one (.bool), .one (.own 3000001 3 false), .one (.int .i64), .one (.int .i64)]
def impl_Cheapest_16_so : List So := [.var [.int .i64, .int .i64, .arr 3, .arr 206], .arr 3 false]
def impl_Cheapest_16_emb (c : Int × SSea) (x : Bool × Int × List Int) : EVs T impl_Cheapest_16_sv × EOs T impl_Cheapest_16_so := (((), (), x.1, (), c.1, x.2.1, ()), ((c.2.Wide, c.2.High, c.2.Costs, c.2.Shut, ()), x.2.2, ()))
def impl_Cheapest_16_prj (y : EVs T impl_Cheapest_16_sv × EOs T impl_Cheapest_16_so) : (Int × SSea) × (Bool × Int × List Int) := ((y.1.2.2.2.2.1, ((⟨y.2.1.1, y.2.1.2.1, y.2.1.2.2.1, y.2.1.2.2.2.1⟩ : SSea) : SSea)), (y.1.2.2.1, y.1.2.2.2.2.2.1, y.2.2.1))
def impl_Cheapest_16_b (n : Nat) {R : Type} (K : Ex → Sm.St T → Option R) (c : Int × SSea) (x : Bool × Int × List Int) (J : (Bool × Int × List Int) → Option R) : Option R :=
  impl_Cheapest_L16 n (fun (y0 : Bool) (y2 : List Int) => K (.exit 4) (stOf (T := T) [2, 6, 8] [16, 3000000] [.one (.ptr 16 0 0), .one (.own 3000000 3 false), .one (.bool)] [.var [.int .i64, .int .i64, .arr 3, .arr 206], .arr 3 false] ((), (), y0, ()) ((c.2.Wide, c.2.High, c.2.Costs, c.2.Shut, ()), y2, ()))) (fun z0 z1 z2 => J (z0, z1, z2)) x.1 c.1 x.2.1 c.2 x.2.2
def impl_Cheapest_16_sp (n : Nat) : LSpec T := mkSpec T ⟨[((.reg 6), 3000000, 3), ((.reg 47), 3000001, 3)], [2, 6, 8, 47, 48, 49], [16, 3000001]⟩ impl_Cheapest_16_sv impl_Cheapest_16_so (Int × SSea) (Bool × Int × List Int) impl_Cheapest_16_emb impl_Cheapest_16_prj (impl_Cheapest_16_b n)
noncomputable def impl_Cheapest_16_c : Code := ((loopCodes impl_Cheapest_code)[2]?).getD .skip
def impl_Cheapest_20_sv : List Sv := [.one (.ptr 16 0 0), .one (.own 3000001 3 false), .one (.bool), .one (.int .i64), .one (.own 3000001 3 false), .one (.int .i64), .one (.int .i64), .one (.own 3000002 3 false), .one (.int .i64), .one (.int .i64)]
def impl_Cheapest_20_so : List So := [.var [.int .i64, .int .i64, .arr 3, .arr 206], .arr 3 false, .arr 3 false]
def impl_Cheapest_20_emb (c : Int × Int × Int × Int × SSea × List Int) (x : Bool × Int × List Int) : EVs T impl_Cheapest_20_sv × EOs T impl_Cheapest_20_so := (((), (), x.1, c.1, (), c.2.1, c.2.2.1, (), c.2.2.2.1, x.2.1, ()), ((c.2.2.2.2.1.Wide, c.2.2.2.2.1.High, c.2.2.2.2.1.Costs, c.2.2.2.2.1.Shut, ()), x.2.2, c.2.2.2.2.2, ()))
def impl_Cheapest_20_prj (y : EVs T impl_Cheapest_20_sv × EOs T impl_Cheapest_20_so) : (Int × Int × Int × Int × SSea × List Int) × (Bool × Int × List Int) := ((y.1.2.2.2.1, y.1.2.2.2.2.2.1, y.1.2.2.2.2.2.2.1, y.1.2.2.2.2.2.2.2.2.1, ((⟨y.2.1.1, y.2.1.2.1, y.2.1.2.2.1, y.2.1.2.2.2.1⟩ : SSea) : SSea), y.2.2.2.1), (y.1.2.2.1, y.1.2.2.2.2.2.2.2.2.2.1, y.2.2.1))
def impl_Cheapest_20_b (n : Nat) {R : Type} (K : Ex → Sm.St T → Option R) (c : Int × Int × Int × Int × SSea × List Int) (x : Bool × Int × List Int) (J : (Bool × Int × List Int) → Option R) : Option R :=
  impl_Cheapest_L20 n (fun (y0 : Bool) (y4 : List Int) => K (.exit 6) (stOf (T := T) [2, 6, 8, 47, 48, 49] [16, 3000001] [.one (.ptr 16 0 0), .one (.own 3000001 3 false), .one (.bool), .one (.own 3000001 3 false), .one (.int .i64), .one (.int .i64)] [.var [.int .i64, .int .i64, .arr 3, .arr 206], .arr 3 false] ((), (), y0, (), c.2.1, c.2.2.1, ()) ((c.2.2.2.2.1.Wide, c.2.2.2.2.1.High, c.2.2.2.2.1.Costs, c.2.2.2.2.1.Shut, ()), y4, ()))) (fun z0 z1 z2 => J (z0, z1, z2)) x.1 c.1 c.2.1 c.2.2.1 c.2.2.2.1 x.2.1 c.2.2.2.2.1 x.2.2 c.2.2.2.2.2
def impl_Cheapest_20_sp (n : Nat) : LSpec T := mkSpec T ⟨[((.reg 6), 3000000, 3), ((.reg 47), 3000001, 3), ((.reg 58), 3000002, 3)], [2, 6, 8, 10, 47, 48, 49, 58, 59, 60], [16, 3000001, 3000002]⟩ impl_Cheapest_20_sv impl_Cheapest_20_so (Int × Int × Int × Int × SSea × List Int) (Bool × Int × List Int) impl_Cheapest_20_emb impl_Cheapest_20_prj (impl_Cheapest_20_b n)
noncomputable def impl_Cheapest_20_c : Code := ((loopCodes impl_Cheapest_code)[3]?).getD .skip
def impl_Cheapest_ann : Ann := fun id => bif Nat.beq id 3000005 then some ⟨[((.reg 6), 3000000, 3)], [1, 2, 6], [16, 3000000]⟩ else bif Nat.beq id 5000013 then some ⟨[((.reg 6), 3000000, 3)], [6], [3000000]⟩ else bif Nat.beq id 7000016 then some ⟨[((.reg 6), 3000000, 3)], [2, 6, 8], [16, 3000000]⟩ else bif Nat.beq id 9000020 then some ⟨[((.reg 6), 3000000, 3), ((.reg 47), 3000001, 3)], [2, 6, 8, 47, 48, 49], [16, 3000001]⟩ else none
def impl_Cheapest_Ls (n : Nat) : Nat → Option (LSpec T) := fun id => bif Nat.beq id 5 then some (impl_Cheapest_5_sp n) else bif Nat.beq id 13 then some (impl_Cheapest_13_sp n) else bif Nat.beq id 16 then some (impl_Cheapest_16_sp n) else bif Nat.beq id 20 then some (impl_Cheapest_20_sp n) else none
theorem impl_Cheapest_5_le (n : Nat) : LoopEq (T := T) (Phi n 22) (impl_Cheapest_Ls n) impl_Cheapest_ann n impl_Cheapest_5_c (impl_Cheapest_5_sp n) := ⟨mkSpec_dec (fun y => rfl), fun c x => by kernel_rfl, fun K J c x => by kernel_rfl⟩
theorem impl_Cheapest_13_le (n : Nat) : LoopEq (T := T) (Phi n 22) (impl_Cheapest_Ls n) impl_Cheapest_ann n impl_Cheapest_13_c (impl_Cheapest_13_sp n) := ⟨mkSpec_dec (fun y => rfl), fun c x => by kernel_rfl, fun K J c x => by kernel_rfl⟩
theorem impl_Cheapest_16_le (n : Nat) : LoopEq (T := T) (Phi n 22) (impl_Cheapest_Ls n) impl_Cheapest_ann n impl_Cheapest_16_c (impl_Cheapest_16_sp n) := ⟨mkSpec_dec (fun y => rfl), fun c x => by kernel_rfl, fun K J c x => by kernel_rfl⟩
theorem impl_Cheapest_20_le (n : Nat) : LoopEq (T := T) (Phi n 22) (impl_Cheapest_Ls n) impl_Cheapest_ann n impl_Cheapest_20_c (impl_Cheapest_20_sp n) := ⟨mkSpec_dec (fun y => rfl), fun c x => by kernel_rfl, fun K J c x => by kernel_rfl⟩
theorem impl_Cheapest_tie (n : Nat) (s0 : SSea) (from1 : Int) : evF (T := T) (Phi n 22) (impl_Cheapest_Ls n) impl_Cheapest_ann n Try.f65 (sg 65) [vA T 103 s0, vA T 3 from1] impl_Cheapest_dec = impl_Cheapest n s0 from1 := by kernel_rfl
theorem impl_Cheapest_lo (n : Nat) : LoopsOk (T := T) (Phi n 22) (impl_Cheapest_Ls n) impl_Cheapest_ann n impl_Cheapest_code := loopsOk_all (cs := [impl_Cheapest_5_c, impl_Cheapest_13_c, impl_Cheapest_16_c, impl_Cheapest_20_c]) (by kernel_rfl) ⟨⟨_, by kernel_rfl, impl_Cheapest_5_le n⟩, ⟨_, by kernel_rfl, impl_Cheapest_13_le n⟩, ⟨_, by kernel_rfl, impl_Cheapest_16_le n⟩, ⟨_, by kernel_rfl, impl_Cheapest_20_le n⟩, trivial⟩
theorem impl_Cheapest_ok (n : Nat) : EntOk Try.prog (ents n) (impl_Cheapest_ent n) := by
  intro hs ar y hg h
  replace h : impl_Cheapest_D n ar = some y := h
  unfold impl_Cheapest_D at h
  replace h := ocons_some h
  obtain ⟨a0, r0, rfl, h⟩ := h
  replace h := ocons_some h
  obtain ⟨a1, r1, rfl, h⟩ := h
  replace h := onil_some h
  obtain ⟨rfl, h⟩ := h
  obtain ⟨s0, qh0, h⟩ := obind_some h
  obtain ⟨from1, qh1, h⟩ := obind_some h
  rw [argV_eq ok qh0, argV_eq ok qh1]
  exact call_of (phiE_nat _ _) hs ok mixed Try.func65 (c := impl_Cheapest_code) (by kernel_rfl) (impl_Cheapest_lo n) (by kernel_rfl) (by kernel_rfl) (by kernel_rfl) impl_Cheapest_de ((impl_Cheapest_tie n s0 from1).trans h)
noncomputable def impl_own_int_code : Code := match Try.f104.body with | some c => c | none => .skip
def impl_own_int_ann : Ann := fun id => none
def impl_own_int_Ls (n : Nat) : Nat → Option (LSpec T) := fun id => none
theorem impl_own_int_tie (n : Nat) (l0 : List Int) : evF (T := T) (Phi n 23) (impl_own_int_Ls n) impl_own_int_ann n Try.f104 (sg 104) [vA T 55 l0] impl_own_int_dec = impl_own_int n l0 := by kernel_rfl
theorem impl_own_int_lo (n : Nat) : LoopsOk (T := T) (Phi n 23) (impl_own_int_Ls n) impl_own_int_ann n impl_own_int_code := loopsOk_all (cs := []) (by kernel_rfl) trivial
theorem impl_own_int_ok (n : Nat) : EntOk Try.prog (ents n) (impl_own_int_ent n) := by
  intro hs ar y hg h
  replace h : impl_own_int_D n ar = some y := h
  unfold impl_own_int_D at h
  replace h := ocons_some h
  obtain ⟨a0, r0, rfl, h⟩ := h
  replace h := onil_some h
  obtain ⟨rfl, h⟩ := h
  obtain ⟨l0, qh0, h⟩ := obind_some h
  rw [argV_eq ok qh0]
  exact call_of (phiE_nat _ _) hs ok mixed Try.func104 (c := impl_own_int_code) (by kernel_rfl) (impl_own_int_lo n) (by kernel_rfl) (by kernel_rfl) (by kernel_rfl) impl_own_int_de ((impl_own_int_tie n l0).trans h)
noncomputable def impl_WayOf_code : Code := match Try.f68.body with | some c => c | none => .skip
def impl_WayOf_6_sv : List Sv := [.one (.int .i64), .one (.ptr 24 0 0), .one (.own 3000000 3 false), .one (.own 3000001 3 false), .one (.int .i64)]
def impl_WayOf_6_so : List So := [.var [.int .i64, .int .i64, .arr 3, .arr 206], .arr 3 false, .arr 3 false]
def impl_WayOf_6_emb (c : Int × SSea × List Int) (x : Int × List Int) : EVs T impl_WayOf_6_sv × EOs T impl_WayOf_6_so := ((c.1, (), (), (), x.1, ()), ((c.2.1.Wide, c.2.1.High, c.2.1.Costs, c.2.1.Shut, ()), c.2.2, x.2, ()))
def impl_WayOf_6_prj (y : EVs T impl_WayOf_6_sv × EOs T impl_WayOf_6_so) : (Int × SSea × List Int) × (Int × List Int) := ((y.1.1, ((⟨y.2.1.1, y.2.1.2.1, y.2.1.2.2.1, y.2.1.2.2.2.1⟩ : SSea) : SSea), y.2.2.1), (y.1.2.2.2.2.1, y.2.2.2.1))
def impl_WayOf_6_b (n : Nat) {R : Type} (K : Ex → Sm.St T → Option R) (c : Int × SSea × List Int) (x : Int × List Int) (J : (Int × List Int) → Option R) : Option R :=
  impl_WayOf_L6 n (fun (y0 : List Int) => K (.exit 0) (stOf (T := T) [10] [3000001] [.one (.own 3000001 3 false)] [.arr 3 false] ((), ()) (y0, ()))) (fun z0 z1 => J (z0, z1)) c.1 x.1 c.2.1 c.2.2 x.2
def impl_WayOf_6_sp (n : Nat) : LSpec T := mkSpec T ⟨[((.reg 8), 3000000, 3), ((.reg 10), 3000001, 3)], [1, 3, 8, 10, 11], [24, 3000000, 3000001]⟩ impl_WayOf_6_sv impl_WayOf_6_so (Int × SSea × List Int) (Int × List Int) impl_WayOf_6_emb impl_WayOf_6_prj (impl_WayOf_6_b n)
noncomputable def impl_WayOf_6_c : Code := ((loopCodes impl_WayOf_code)[0]?).getD .skip
def impl_WayOf_8_sv : List Sv := [.one (.int .i64), .one (.ptr 24 0 0), .one (.own 3000000 3 false), .one (.own 3000001 3 false), .one (.int .i64), .one (.own 3000002 3 false), .one (.int .i64), .one (.int .i64)]
def impl_WayOf_8_so : List So := [.var [.int .i64, .int .i64, .arr 3, .arr 206], .arr 3 false, .arr 3 false, .arr 3 false]
def impl_WayOf_8_emb (c : Int × Int × Int × SSea × List Int × List Int × List Int) (x : Int) : EVs T impl_WayOf_8_sv × EOs T impl_WayOf_8_so := ((c.1, (), (), (), c.2.1, (), c.2.2.1, x, ()), ((c.2.2.2.1.Wide, c.2.2.2.1.High, c.2.2.2.1.Costs, c.2.2.2.1.Shut, ()), c.2.2.2.2.1, c.2.2.2.2.2.1, c.2.2.2.2.2.2, ()))
def impl_WayOf_8_prj (y : EVs T impl_WayOf_8_sv × EOs T impl_WayOf_8_so) : (Int × Int × Int × SSea × List Int × List Int × List Int) × Int := ((y.1.1, y.1.2.2.2.2.1, y.1.2.2.2.2.2.2.1, ((⟨y.2.1.1, y.2.1.2.1, y.2.1.2.2.1, y.2.1.2.2.2.1⟩ : SSea) : SSea), y.2.2.1, y.2.2.2.1, y.2.2.2.2.1), (y.1.2.2.2.2.2.2.2.1))
def impl_WayOf_8_b (n : Nat) {R : Type} (K : Ex → Sm.St T → Option R) (c : Int × Int × Int × SSea × List Int × List Int × List Int) (x : Int) (J : Int → Option R) : Option R :=
  impl_WayOf_L8 n (fun (y1 : Int) => K (.exit 2) (stOf (T := T) [1, 3, 8, 10, 11] [24, 3000000, 3000001] [.one (.int .i64), .one (.ptr 24 0 0), .one (.own 3000000 3 false), .one (.own 3000001 3 false), .one (.int .i64)] [.var [.int .i64, .int .i64, .arr 3, .arr 206], .arr 3 false, .arr 3 false] (c.1, (), (), (), y1, ()) ((c.2.2.2.1.Wide, c.2.2.2.1.High, c.2.2.2.1.Costs, c.2.2.2.1.Shut, ()), c.2.2.2.2.1, c.2.2.2.2.2.1, ()))) J c.1 c.2.1 c.2.2.1 x c.2.2.2.1 c.2.2.2.2.1 c.2.2.2.2.2.1 c.2.2.2.2.2.2
def impl_WayOf_8_sp (n : Nat) : LSpec T := mkSpec T ⟨[((.reg 8), 3000000, 3), ((.reg 10), 3000001, 3), ((.reg 45), 3000002, 3)], [1, 3, 8, 10, 11, 45, 46, 47], [24, 3000000, 3000001, 3000002]⟩ impl_WayOf_8_sv impl_WayOf_8_so (Int × Int × Int × SSea × List Int × List Int × List Int) (Int) impl_WayOf_8_emb impl_WayOf_8_prj (impl_WayOf_8_b n)
noncomputable def impl_WayOf_8_c : Code := ((loopCodes impl_WayOf_code)[1]?).getD .skip
def impl_WayOf_15_sv : List Sv := [.one (.own 3000001 3 false), .one (.int .i64), .one (.int .i64)]
def impl_WayOf_15_so : List So := [.arr 3 false]
def impl_WayOf_15_emb (c : Unit) (x : Int × Int × List Int) : EVs T impl_WayOf_15_sv × EOs T impl_WayOf_15_so := (((), x.1, x.2.1, ()), (x.2.2, ()))
def impl_WayOf_15_prj (y : EVs T impl_WayOf_15_sv × EOs T impl_WayOf_15_so) : Unit × (Int × Int × List Int) := ((), (y.1.2.1, y.1.2.2.1, y.2.1))
def impl_WayOf_15_b (n : Nat) {R : Type} (K : Ex → Sm.St T → Option R) (c : Unit) (x : Int × Int × List Int) (J : (Int × Int × List Int) → Option R) : Option R :=
  impl_WayOf_L15 n (fun (y0 : List Int) => K (.exit 4) (stOf (T := T) [10] [3000001] [.one (.own 3000001 3 false)] [.arr 3 false] ((), ()) (y0, ()))) (fun z0 z1 z2 => J (z0, z1, z2)) x.1 x.2.1 x.2.2
def impl_WayOf_15_sp (n : Nat) : LSpec T := mkSpec T ⟨[((.reg 10), 3000001, 3)], [10, 14, 15], [3000001]⟩ impl_WayOf_15_sv impl_WayOf_15_so (Unit) (Int × Int × List Int) impl_WayOf_15_emb impl_WayOf_15_prj (impl_WayOf_15_b n)
noncomputable def impl_WayOf_15_c : Code := ((loopCodes impl_WayOf_code)[2]?).getD .skip
def impl_WayOf_ann : Ann := fun id => bif Nat.beq id 3000006 then some ⟨[((.reg 10), 3000001, 3)], [10], [3000001]⟩ else bif Nat.beq id 5000008 then some ⟨[((.reg 8), 3000000, 3), ((.reg 10), 3000001, 3)], [1, 3, 8, 10, 11], [24, 3000000, 3000001]⟩ else bif Nat.beq id 7000015 then some ⟨[((.reg 10), 3000001, 3)], [10], [3000001]⟩ else none
def impl_WayOf_Ls (n : Nat) : Nat → Option (LSpec T) := fun id => bif Nat.beq id 6 then some (impl_WayOf_6_sp n) else bif Nat.beq id 8 then some (impl_WayOf_8_sp n) else bif Nat.beq id 15 then some (impl_WayOf_15_sp n) else none
theorem impl_WayOf_6_le (n : Nat) : LoopEq (T := T) (Phi n 24) (impl_WayOf_Ls n) impl_WayOf_ann n impl_WayOf_6_c (impl_WayOf_6_sp n) := ⟨mkSpec_dec (fun y => rfl), fun c x => by kernel_rfl, fun K J c x => by kernel_rfl⟩
theorem impl_WayOf_8_le (n : Nat) : LoopEq (T := T) (Phi n 24) (impl_WayOf_Ls n) impl_WayOf_ann n impl_WayOf_8_c (impl_WayOf_8_sp n) := ⟨mkSpec_dec (fun y => rfl), fun c x => by kernel_rfl, fun K J c x => by kernel_rfl⟩
theorem impl_WayOf_15_le (n : Nat) : LoopEq (T := T) (Phi n 24) (impl_WayOf_Ls n) impl_WayOf_ann n impl_WayOf_15_c (impl_WayOf_15_sp n) := ⟨mkSpec_dec (fun y => rfl), fun c x => by kernel_rfl, fun K J c x => by kernel_rfl⟩
theorem impl_WayOf_tie (n : Nat) (s0 : SSea) (from1 : Int) (to2 : Int) : evF (T := T) (Phi n 24) (impl_WayOf_Ls n) impl_WayOf_ann n Try.f68 (sg 68) [vA T 103 s0, vA T 3 from1, vA T 3 to2] impl_WayOf_dec = impl_WayOf n s0 from1 to2 := by kernel_rfl
theorem impl_WayOf_lo (n : Nat) : LoopsOk (T := T) (Phi n 24) (impl_WayOf_Ls n) impl_WayOf_ann n impl_WayOf_code := loopsOk_all (cs := [impl_WayOf_6_c, impl_WayOf_8_c, impl_WayOf_15_c]) (by kernel_rfl) ⟨⟨_, by kernel_rfl, impl_WayOf_6_le n⟩, ⟨_, by kernel_rfl, impl_WayOf_8_le n⟩, ⟨_, by kernel_rfl, impl_WayOf_15_le n⟩, trivial⟩
theorem impl_WayOf_ok (n : Nat) : EntOk Try.prog (ents n) (impl_WayOf_ent n) := by
  intro hs ar y hg h
  replace h : impl_WayOf_D n ar = some y := h
  unfold impl_WayOf_D at h
  replace h := ocons_some h
  obtain ⟨a0, r0, rfl, h⟩ := h
  replace h := ocons_some h
  obtain ⟨a1, r1, rfl, h⟩ := h
  replace h := ocons_some h
  obtain ⟨a2, r2, rfl, h⟩ := h
  replace h := onil_some h
  obtain ⟨rfl, h⟩ := h
  obtain ⟨s0, qh0, h⟩ := obind_some h
  obtain ⟨from1, qh1, h⟩ := obind_some h
  obtain ⟨to2, qh2, h⟩ := obind_some h
  rw [argV_eq ok qh0, argV_eq ok qh1, argV_eq ok qh2]
  exact call_of (phiE_nat _ _) hs ok mixed Try.func68 (c := impl_WayOf_code) (by kernel_rfl) (impl_WayOf_lo n) (by kernel_rfl) (by kernel_rfl) (by kernel_rfl) impl_WayOf_de ((impl_WayOf_tie n s0 from1 to2).trans h)
noncomputable def laws_eqIntS_code : Code := match Try.f37.body with | some c => c | none => .skip
def laws_eqIntS_4_sv : List Sv := [.one (.arr 3), .one (.arr 3), .one (.int .i64)]
def laws_eqIntS_4_so : List So := []
def laws_eqIntS_4_emb (c : List Int × List Int) (x : Int) : EVs T laws_eqIntS_4_sv × EOs T laws_eqIntS_4_so := ((c.1, c.2, x, ()), ())
def laws_eqIntS_4_prj (y : EVs T laws_eqIntS_4_sv × EOs T laws_eqIntS_4_so) : (List Int × List Int) × Int := ((y.1.1, y.1.2.1), (y.1.2.2.1))
def laws_eqIntS_4_b (n : Nat) {R : Type} (K : Ex → Sm.St T → Option R) (c : List Int × List Int) (x : Int) (J : Int → Option R) : Option R :=
  laws_eqIntS_L4 n (K (.exit 0) (stOf (T := T) [] [] [] [] () ())) (fun (y0 : Bool) => K .ret (stOf (T := T) [4] [] [.one (.bool)] [] (y0, ()) ())) J c.1 c.2 x
def laws_eqIntS_4_sp (n : Nat) : LSpec T := mkSpec T ⟨[], [0, 1, 5], []⟩ laws_eqIntS_4_sv laws_eqIntS_4_so (List Int × List Int) (Int) laws_eqIntS_4_emb laws_eqIntS_4_prj (laws_eqIntS_4_b n)
noncomputable def laws_eqIntS_4_c : Code := ((loopCodes laws_eqIntS_code)[0]?).getD .skip
def laws_eqIntS_ann : Ann := fun id => bif Nat.beq id 3000004 then some ⟨[], [], []⟩ else bif Nat.beq id 2000004 then some ⟨[], [4], []⟩ else none
def laws_eqIntS_Ls (n : Nat) : Nat → Option (LSpec T) := fun id => bif Nat.beq id 4 then some (laws_eqIntS_4_sp n) else none
theorem laws_eqIntS_4_le (n : Nat) : LoopEq (T := T) (Phi n 25) (laws_eqIntS_Ls n) laws_eqIntS_ann n laws_eqIntS_4_c (laws_eqIntS_4_sp n) := ⟨mkSpec_dec (fun y => rfl), fun c x => by kernel_rfl, fun K J c x => by kernel_rfl⟩
theorem laws_eqIntS_tie (n : Nat) (a0 : List Int) (b1 : List Int) : evF (T := T) (Phi n 25) (laws_eqIntS_Ls n) laws_eqIntS_ann n Try.f37 (sg 37) [vA T 55 a0, vA T 55 b1] laws_eqIntS_dec = laws_eqIntS n a0 b1 := by kernel_rfl
theorem laws_eqIntS_lo (n : Nat) : LoopsOk (T := T) (Phi n 25) (laws_eqIntS_Ls n) laws_eqIntS_ann n laws_eqIntS_code := loopsOk_all (cs := [laws_eqIntS_4_c]) (by kernel_rfl) ⟨⟨_, by kernel_rfl, laws_eqIntS_4_le n⟩, trivial⟩
theorem laws_eqIntS_ok (n : Nat) : EntOk Try.prog (ents n) (laws_eqIntS_ent n) := by
  intro hs ar y hg h
  replace h : laws_eqIntS_D n ar = some y := h
  unfold laws_eqIntS_D at h
  replace h := ocons_some h
  obtain ⟨a0, r0, rfl, h⟩ := h
  replace h := ocons_some h
  obtain ⟨a1, r1, rfl, h⟩ := h
  replace h := onil_some h
  obtain ⟨rfl, h⟩ := h
  obtain ⟨a0, qh0, h⟩ := obind_some h
  obtain ⟨b1, qh1, h⟩ := obind_some h
  rw [argV_eq ok qh0, argV_eq ok qh1]
  exact call_of (phiE_nat _ _) hs ok mixed Try.func37 (c := laws_eqIntS_code) (by kernel_rfl) (laws_eqIntS_lo n) (by kernel_rfl) (by kernel_rfl) (by kernel_rfl) laws_eqIntS_de ((laws_eqIntS_tie n a0 b1).trans h)
noncomputable def laws_eqClosed_code : Code := match Try.f214.body with | some c => c | none => .skip
def laws_eqClosed_ann : Ann := fun id => none
def laws_eqClosed_Ls (n : Nat) : Nat → Option (LSpec T) := fun id => none
theorem laws_eqClosed_tie (n : Nat) (a0 : SClosed) (b1 : SClosed) : evF (T := T) (Phi n 26) (laws_eqClosed_Ls n) laws_eqClosed_ann n Try.f214 (sg 214) [vA T 206 a0, vA T 206 b1] laws_eqClosed_dec = laws_eqClosed n a0 b1 := by kernel_rfl
theorem laws_eqClosed_lo (n : Nat) : LoopsOk (T := T) (Phi n 26) (laws_eqClosed_Ls n) laws_eqClosed_ann n laws_eqClosed_code := loopsOk_all (cs := []) (by kernel_rfl) trivial
theorem laws_eqClosed_ok (n : Nat) : EntOk Try.prog (ents n) (laws_eqClosed_ent n) := by
  intro hs ar y hg h
  replace h : laws_eqClosed_D n ar = some y := h
  unfold laws_eqClosed_D at h
  replace h := ocons_some h
  obtain ⟨a0, r0, rfl, h⟩ := h
  replace h := ocons_some h
  obtain ⟨a1, r1, rfl, h⟩ := h
  replace h := onil_some h
  obtain ⟨rfl, h⟩ := h
  obtain ⟨a0, qh0, h⟩ := obind_some h
  obtain ⟨b1, qh1, h⟩ := obind_some h
  rw [argV_eq ok qh0, argV_eq ok qh1]
  exact call_of (phiE_nat _ _) hs ok mixed Try.func214 (c := laws_eqClosed_code) (by kernel_rfl) (laws_eqClosed_lo n) (by kernel_rfl) (by kernel_rfl) (by kernel_rfl) laws_eqClosed_de ((laws_eqClosed_tie n a0 b1).trans h)
noncomputable def laws_eqClosedS_code : Code := match Try.f149.body with | some c => c | none => .skip
def laws_eqClosedS_4_sv : List Sv := [.one (.arr 206), .one (.arr 206), .one (.int .i64)]
def laws_eqClosedS_4_so : List So := []
def laws_eqClosedS_4_emb (c : List SClosed × List SClosed) (x : Int) : EVs T laws_eqClosedS_4_sv × EOs T laws_eqClosedS_4_so := ((c.1, c.2, x, ()), ())
def laws_eqClosedS_4_prj (y : EVs T laws_eqClosedS_4_sv × EOs T laws_eqClosedS_4_so) : (List SClosed × List SClosed) × Int := ((y.1.1, y.1.2.1), (y.1.2.2.1))
def laws_eqClosedS_4_b (n : Nat) {R : Type} (K : Ex → Sm.St T → Option R) (c : List SClosed × List SClosed) (x : Int) (J : Int → Option R) : Option R :=
  laws_eqClosedS_L4 n (K (.exit 0) (stOf (T := T) [] [] [] [] () ())) (fun (y0 : Bool) => K .ret (stOf (T := T) [4] [] [.one (.bool)] [] (y0, ()) ())) J c.1 c.2 x
def laws_eqClosedS_4_sp (n : Nat) : LSpec T := mkSpec T ⟨[], [0, 1, 5], []⟩ laws_eqClosedS_4_sv laws_eqClosedS_4_so (List SClosed × List SClosed) (Int) laws_eqClosedS_4_emb laws_eqClosedS_4_prj (laws_eqClosedS_4_b n)
noncomputable def laws_eqClosedS_4_c : Code := ((loopCodes laws_eqClosedS_code)[0]?).getD .skip
def laws_eqClosedS_ann : Ann := fun id => bif Nat.beq id 3000004 then some ⟨[], [], []⟩ else bif Nat.beq id 2000004 then some ⟨[], [4], []⟩ else none
def laws_eqClosedS_Ls (n : Nat) : Nat → Option (LSpec T) := fun id => bif Nat.beq id 4 then some (laws_eqClosedS_4_sp n) else none
theorem laws_eqClosedS_4_le (n : Nat) : LoopEq (T := T) (Phi n 27) (laws_eqClosedS_Ls n) laws_eqClosedS_ann n laws_eqClosedS_4_c (laws_eqClosedS_4_sp n) := ⟨mkSpec_dec (fun y => rfl), fun c x => by kernel_rfl, fun K J c x => by kernel_rfl⟩
theorem laws_eqClosedS_tie (n : Nat) (a0 : List SClosed) (b1 : List SClosed) : evF (T := T) (Phi n 27) (laws_eqClosedS_Ls n) laws_eqClosedS_ann n Try.f149 (sg 149) [vA T 101 a0, vA T 101 b1] laws_eqClosedS_dec = laws_eqClosedS n a0 b1 := by kernel_rfl
theorem laws_eqClosedS_lo (n : Nat) : LoopsOk (T := T) (Phi n 27) (laws_eqClosedS_Ls n) laws_eqClosedS_ann n laws_eqClosedS_code := loopsOk_all (cs := [laws_eqClosedS_4_c]) (by kernel_rfl) ⟨⟨_, by kernel_rfl, laws_eqClosedS_4_le n⟩, trivial⟩
theorem laws_eqClosedS_ok (n : Nat) : EntOk Try.prog (ents n) (laws_eqClosedS_ent n) := by
  intro hs ar y hg h
  replace h : laws_eqClosedS_D n ar = some y := h
  unfold laws_eqClosedS_D at h
  replace h := ocons_some h
  obtain ⟨a0, r0, rfl, h⟩ := h
  replace h := ocons_some h
  obtain ⟨a1, r1, rfl, h⟩ := h
  replace h := onil_some h
  obtain ⟨rfl, h⟩ := h
  obtain ⟨a0, qh0, h⟩ := obind_some h
  obtain ⟨b1, qh1, h⟩ := obind_some h
  rw [argV_eq ok qh0, argV_eq ok qh1]
  exact call_of (phiE_nat _ _) hs ok mixed Try.func149 (c := laws_eqClosedS_code) (by kernel_rfl) (laws_eqClosedS_lo n) (by kernel_rfl) (by kernel_rfl) (by kernel_rfl) laws_eqClosedS_de ((laws_eqClosedS_tie n a0 b1).trans h)
noncomputable def laws_eqSea_code : Code := match Try.f76.body with | some c => c | none => .skip
def laws_eqSea_ann : Ann := fun id => none
def laws_eqSea_Ls (n : Nat) : Nat → Option (LSpec T) := fun id => none
theorem laws_eqSea_tie (n : Nat) (a0 : SSea) (b1 : SSea) : evF (T := T) (Phi n 28) (laws_eqSea_Ls n) laws_eqSea_ann n Try.f76 (sg 76) [vA T 103 a0, vA T 103 b1] laws_eqSea_dec = laws_eqSea n a0 b1 := by kernel_rfl
theorem laws_eqSea_lo (n : Nat) : LoopsOk (T := T) (Phi n 28) (laws_eqSea_Ls n) laws_eqSea_ann n laws_eqSea_code := loopsOk_all (cs := []) (by kernel_rfl) trivial
theorem laws_eqSea_ok (n : Nat) : EntOk Try.prog (ents n) (laws_eqSea_ent n) := by
  intro hs ar y hg h
  replace h : laws_eqSea_D n ar = some y := h
  unfold laws_eqSea_D at h
  replace h := ocons_some h
  obtain ⟨a0, r0, rfl, h⟩ := h
  replace h := ocons_some h
  obtain ⟨a1, r1, rfl, h⟩ := h
  replace h := onil_some h
  obtain ⟨rfl, h⟩ := h
  obtain ⟨a0, qh0, h⟩ := obind_some h
  obtain ⟨b1, qh1, h⟩ := obind_some h
  rw [argV_eq ok qh0, argV_eq ok qh1]
  exact call_of (phiE_nat _ _) hs ok mixed Try.func76 (c := laws_eqSea_code) (by kernel_rfl) (laws_eqSea_lo n) (by kernel_rfl) (by kernel_rfl) (by kernel_rfl) laws_eqSea_de ((laws_eqSea_tie n a0 b1).trans h)
noncomputable def laws_markIntS_code : Code := match Try.f40.body with | some c => c | none => .skip
def laws_markIntS_2_sv : List Sv := [.one (.own 4503599627370496 3 false), .one (.int .i64), .one (.int .i64)]
def laws_markIntS_2_so : List So := [.arr 3 true]
def laws_markIntS_2_emb (c : Unit) (x : Int × Int × List Int) : EVs T laws_markIntS_2_sv × EOs T laws_markIntS_2_so := (((), x.1, x.2.1, ()), (x.2.2, ()))
def laws_markIntS_2_prj (y : EVs T laws_markIntS_2_sv × EOs T laws_markIntS_2_so) : Unit × (Int × Int × List Int) := ((), (y.1.2.1, y.1.2.2.1, y.2.1))
def laws_markIntS_2_b (n : Nat) {R : Type} (K : Ex → Sm.St T → Option R) (c : Unit) (x : Int × Int × List Int) (J : (Int × Int × List Int) → Option R) : Option R :=
  laws_markIntS_L2 n (fun (y0 : Int) (y1 : List Int) => K (.exit 0) (stOf (T := T) [1] [4503599627370496] [.one (.int .i64)] [.arr 3 true] (y0, ()) (y1, ()))) (fun z0 z1 z2 => J (z0, z1, z2)) x.1 x.2.1 x.2.2
def laws_markIntS_2_sp (n : Nat) : LSpec T := mkSpec T ⟨[], [0, 1, 5], [4503599627370496]⟩ laws_markIntS_2_sv laws_markIntS_2_so (Unit) (Int × Int × List Int) laws_markIntS_2_emb laws_markIntS_2_prj (laws_markIntS_2_b n)
noncomputable def laws_markIntS_2_c : Code := ((loopCodes laws_markIntS_code)[0]?).getD .skip
def laws_markIntS_ann : Ann := fun id => bif Nat.beq id 3000002 then some ⟨[], [1], [4503599627370496]⟩ else none
def laws_markIntS_Ls (n : Nat) : Nat → Option (LSpec T) := fun id => bif Nat.beq id 2 then some (laws_markIntS_2_sp n) else none
theorem laws_markIntS_2_le (n : Nat) : LoopEq (T := T) (Phi n 29) (laws_markIntS_Ls n) laws_markIntS_ann n laws_markIntS_2_c (laws_markIntS_2_sp n) := ⟨mkSpec_dec (fun y => rfl), fun c x => by kernel_rfl, fun K J c x => by kernel_rfl⟩
theorem laws_markIntS_tie (n : Nat) (a0 : List Int) (k1 : Int) : evF (T := T) (Phi n 29) (laws_markIntS_Ls n) laws_markIntS_ann n Try.f40 (sg 40) [vA T 55 a0, vA T 3 k1] laws_markIntS_dec = laws_markIntS n a0 k1 := by kernel_rfl
theorem laws_markIntS_lo (n : Nat) : LoopsOk (T := T) (Phi n 29) (laws_markIntS_Ls n) laws_markIntS_ann n laws_markIntS_code := loopsOk_all (cs := [laws_markIntS_2_c]) (by kernel_rfl) ⟨⟨_, by kernel_rfl, laws_markIntS_2_le n⟩, trivial⟩
theorem laws_markIntS_ok (n : Nat) : EntOk Try.prog (ents n) (laws_markIntS_ent n) := by
  intro hs ar y hg h
  replace h : laws_markIntS_D n ar = some y := h
  unfold laws_markIntS_D at h
  replace h := ocons_some h
  obtain ⟨a0, r0, rfl, h⟩ := h
  replace h := ocons_some h
  obtain ⟨a1, r1, rfl, h⟩ := h
  replace h := onil_some h
  obtain ⟨rfl, h⟩ := h
  obtain ⟨a0, qh0, h⟩ := obind_some h
  obtain ⟨k1, qh1, h⟩ := obind_some h
  rw [argV_eq ok qh0, argV_eq ok qh1]
  exact call_of (phiE_nat _ _) hs ok mixed Try.func40 (c := laws_markIntS_code) (by kernel_rfl) (laws_markIntS_lo n) (by kernel_rfl) (by kernel_rfl) (by kernel_rfl) laws_markIntS_de ((laws_markIntS_tie n a0 k1).trans h)
noncomputable def laws_markClosedS_code : Code := match Try.f150.body with | some c => c | none => .skip
def laws_markClosedS_2_sv : List Sv := [.one (.own 4503599627370496 206 false), .one (.int .i64), .one (.int .i64)]
def laws_markClosedS_2_so : List So := [.arr 206 true]
def laws_markClosedS_2_emb (c : Unit) (x : Int × Int × List SClosed) : EVs T laws_markClosedS_2_sv × EOs T laws_markClosedS_2_so := (((), x.1, x.2.1, ()), (x.2.2, ()))
def laws_markClosedS_2_prj (y : EVs T laws_markClosedS_2_sv × EOs T laws_markClosedS_2_so) : Unit × (Int × Int × List SClosed) := ((), (y.1.2.1, y.1.2.2.1, y.2.1))
def laws_markClosedS_2_b (n : Nat) {R : Type} (K : Ex → Sm.St T → Option R) (c : Unit) (x : Int × Int × List SClosed) (J : (Int × Int × List SClosed) → Option R) : Option R :=
  laws_markClosedS_L2 n (fun (y0 : Int) (y1 : List SClosed) => K (.exit 0) (stOf (T := T) [1] [4503599627370496] [.one (.int .i64)] [.arr 206 true] (y0, ()) (y1, ()))) (fun z0 z1 z2 => J (z0, z1, z2)) x.1 x.2.1 x.2.2
def laws_markClosedS_2_sp (n : Nat) : LSpec T := mkSpec T ⟨[], [0, 1, 5], [4503599627370496]⟩ laws_markClosedS_2_sv laws_markClosedS_2_so (Unit) (Int × Int × List SClosed) laws_markClosedS_2_emb laws_markClosedS_2_prj (laws_markClosedS_2_b n)
noncomputable def laws_markClosedS_2_c : Code := ((loopCodes laws_markClosedS_code)[0]?).getD .skip
def laws_markClosedS_ann : Ann := fun id => bif Nat.beq id 3000002 then some ⟨[], [1], [4503599627370496]⟩ else none
def laws_markClosedS_Ls (n : Nat) : Nat → Option (LSpec T) := fun id => bif Nat.beq id 2 then some (laws_markClosedS_2_sp n) else none
theorem laws_markClosedS_2_le (n : Nat) : LoopEq (T := T) (Phi n 30) (laws_markClosedS_Ls n) laws_markClosedS_ann n laws_markClosedS_2_c (laws_markClosedS_2_sp n) := ⟨mkSpec_dec (fun y => rfl), fun c x => by kernel_rfl, fun K J c x => by kernel_rfl⟩
theorem laws_markClosedS_tie (n : Nat) (a0 : List SClosed) (k1 : Int) : evF (T := T) (Phi n 30) (laws_markClosedS_Ls n) laws_markClosedS_ann n Try.f150 (sg 150) [vA T 101 a0, vA T 3 k1] laws_markClosedS_dec = laws_markClosedS n a0 k1 := by kernel_rfl
theorem laws_markClosedS_lo (n : Nat) : LoopsOk (T := T) (Phi n 30) (laws_markClosedS_Ls n) laws_markClosedS_ann n laws_markClosedS_code := loopsOk_all (cs := [laws_markClosedS_2_c]) (by kernel_rfl) ⟨⟨_, by kernel_rfl, laws_markClosedS_2_le n⟩, trivial⟩
theorem laws_markClosedS_ok (n : Nat) : EntOk Try.prog (ents n) (laws_markClosedS_ent n) := by
  intro hs ar y hg h
  replace h : laws_markClosedS_D n ar = some y := h
  unfold laws_markClosedS_D at h
  replace h := ocons_some h
  obtain ⟨a0, r0, rfl, h⟩ := h
  replace h := ocons_some h
  obtain ⟨a1, r1, rfl, h⟩ := h
  replace h := onil_some h
  obtain ⟨rfl, h⟩ := h
  obtain ⟨a0, qh0, h⟩ := obind_some h
  obtain ⟨k1, qh1, h⟩ := obind_some h
  rw [argV_eq ok qh0, argV_eq ok qh1]
  exact call_of (phiE_nat _ _) hs ok mixed Try.func150 (c := laws_markClosedS_code) (by kernel_rfl) (laws_markClosedS_lo n) (by kernel_rfl) (by kernel_rfl) (by kernel_rfl) laws_markClosedS_de ((laws_markClosedS_tie n a0 k1).trans h)
noncomputable def laws_markSea_code : Code := match Try.f77.body with | some c => c | none => .skip
def laws_markSea_ann : Ann := fun id => none
def laws_markSea_Ls (n : Nat) : Nat → Option (LSpec T) := fun id => none
theorem laws_markSea_tie (n : Nat) (a0 : SSea) (k1 : Int) : evF (T := T) (Phi n 31) (laws_markSea_Ls n) laws_markSea_ann n Try.f77 (sg 77) [vA T 103 a0, vA T 3 k1] laws_markSea_dec = laws_markSea n a0 k1 := by kernel_rfl
theorem laws_markSea_lo (n : Nat) : LoopsOk (T := T) (Phi n 31) (laws_markSea_Ls n) laws_markSea_ann n laws_markSea_code := loopsOk_all (cs := []) (by kernel_rfl) trivial
theorem laws_markSea_ok (n : Nat) : EntOk Try.prog (ents n) (laws_markSea_ent n) := by
  intro hs ar y hg h
  replace h : laws_markSea_D n ar = some y := h
  unfold laws_markSea_D at h
  replace h := ocons_some h
  obtain ⟨a0, r0, rfl, h⟩ := h
  replace h := ocons_some h
  obtain ⟨a1, r1, rfl, h⟩ := h
  replace h := onil_some h
  obtain ⟨rfl, h⟩ := h
  obtain ⟨a0, qh0, h⟩ := obind_some h
  obtain ⟨k1, qh1, h⟩ := obind_some h
  rw [argV_eq ok qh0, argV_eq ok qh1]
  exact call_of (phiE_nat _ _) hs ok mixed Try.func77 (c := laws_markSea_code) (by kernel_rfl) (laws_markSea_lo n) (by kernel_rfl) (by kernel_rfl) (by kernel_rfl) laws_markSea_de ((laws_markSea_tie n a0 k1).trans h)
noncomputable def laws_heldIntS_code : Code := match Try.f41.body with | some c => c | none => .skip
def laws_heldIntS_2_sv : List Sv := [.one (.arr 3), .one (.int .i64), .one (.int .i64)]
def laws_heldIntS_2_so : List So := []
def laws_heldIntS_2_emb (c : List Int) (x : Int × Int) : EVs T laws_heldIntS_2_sv × EOs T laws_heldIntS_2_so := ((c, x.1, x.2, ()), ())
def laws_heldIntS_2_prj (y : EVs T laws_heldIntS_2_sv × EOs T laws_heldIntS_2_so) : List Int × (Int × Int) := ((y.1.1), (y.1.2.1, y.1.2.2.1))
def laws_heldIntS_2_b (n : Nat) {R : Type} (K : Ex → Sm.St T → Option R) (c : List Int) (x : Int × Int) (J : (Int × Int) → Option R) : Option R :=
  laws_heldIntS_L2 n (fun (y0 : Int) => K (.exit 0) (stOf (T := T) [1] [] [.one (.int .i64)] [] (y0, ()) ())) (fun (y0 : Int) => K .ret (stOf (T := T) [4] [] [.one (.int .i64)] [] (y0, ()) ())) (fun z0 z1 => J (z0, z1)) c x.1 x.2
def laws_heldIntS_2_sp (n : Nat) : LSpec T := mkSpec T ⟨[], [0, 1, 5], []⟩ laws_heldIntS_2_sv laws_heldIntS_2_so (List Int) (Int × Int) laws_heldIntS_2_emb laws_heldIntS_2_prj (laws_heldIntS_2_b n)
noncomputable def laws_heldIntS_2_c : Code := ((loopCodes laws_heldIntS_code)[0]?).getD .skip
def laws_heldIntS_ann : Ann := fun id => bif Nat.beq id 3000002 then some ⟨[], [1], []⟩ else bif Nat.beq id 2000002 then some ⟨[], [4], []⟩ else none
def laws_heldIntS_Ls (n : Nat) : Nat → Option (LSpec T) := fun id => bif Nat.beq id 2 then some (laws_heldIntS_2_sp n) else none
theorem laws_heldIntS_2_le (n : Nat) : LoopEq (T := T) (Phi n 32) (laws_heldIntS_Ls n) laws_heldIntS_ann n laws_heldIntS_2_c (laws_heldIntS_2_sp n) := ⟨mkSpec_dec (fun y => rfl), fun c x => by kernel_rfl, fun K J c x => by kernel_rfl⟩
theorem laws_heldIntS_tie (n : Nat) (a0 : List Int) (k1 : Int) : evF (T := T) (Phi n 32) (laws_heldIntS_Ls n) laws_heldIntS_ann n Try.f41 (sg 41) [vA T 55 a0, vA T 3 k1] laws_heldIntS_dec = laws_heldIntS n a0 k1 := by kernel_rfl
theorem laws_heldIntS_lo (n : Nat) : LoopsOk (T := T) (Phi n 32) (laws_heldIntS_Ls n) laws_heldIntS_ann n laws_heldIntS_code := loopsOk_all (cs := [laws_heldIntS_2_c]) (by kernel_rfl) ⟨⟨_, by kernel_rfl, laws_heldIntS_2_le n⟩, trivial⟩
theorem laws_heldIntS_ok (n : Nat) : EntOk Try.prog (ents n) (laws_heldIntS_ent n) := by
  intro hs ar y hg h
  replace h : laws_heldIntS_D n ar = some y := h
  unfold laws_heldIntS_D at h
  replace h := ocons_some h
  obtain ⟨a0, r0, rfl, h⟩ := h
  replace h := ocons_some h
  obtain ⟨a1, r1, rfl, h⟩ := h
  replace h := onil_some h
  obtain ⟨rfl, h⟩ := h
  obtain ⟨a0, qh0, h⟩ := obind_some h
  obtain ⟨k1, qh1, h⟩ := obind_some h
  rw [argV_eq ok qh0, argV_eq ok qh1]
  exact call_of (phiE_nat _ _) hs ok mixed Try.func41 (c := laws_heldIntS_code) (by kernel_rfl) (laws_heldIntS_lo n) (by kernel_rfl) (by kernel_rfl) (by kernel_rfl) laws_heldIntS_de ((laws_heldIntS_tie n a0 k1).trans h)
noncomputable def laws_FnExactWayOf_code : Code := match Try.f12.body with | some c => c | none => .skip
def laws_FnExactWayOf_ann : Ann := fun id => none
def laws_FnExactWayOf_Ls (n : Nat) : Nat → Option (LSpec T) := fun id => none
theorem laws_FnExactWayOf_tie (n : Nat) (aS0 : SSea) (aFrom1 : Int) (aTo2 : Int) : evF (T := T) (Phi n 33) (laws_FnExactWayOf_Ls n) laws_FnExactWayOf_ann n Try.f12 (sg 12) [vA T 116 aS0, vA T 3 aFrom1, vA T 3 aTo2] laws_FnExactWayOf_dec = laws_FnExactWayOf n aS0 aFrom1 aTo2 := by kernel_rfl
theorem laws_FnExactWayOf_lo (n : Nat) : LoopsOk (T := T) (Phi n 33) (laws_FnExactWayOf_Ls n) laws_FnExactWayOf_ann n laws_FnExactWayOf_code := loopsOk_all (cs := []) (by kernel_rfl) trivial
theorem laws_FnExactWayOf_ok (n : Nat) : EntOk Try.prog (ents n) (laws_FnExactWayOf_ent n) := by
  intro hs ar y hg h
  replace h : laws_FnExactWayOf_D n ar = some y := h
  unfold laws_FnExactWayOf_D at h
  replace h := ocons_some h
  obtain ⟨a0, r0, rfl, h⟩ := h
  replace h := ocons_some h
  obtain ⟨a1, r1, rfl, h⟩ := h
  replace h := ocons_some h
  obtain ⟨a2, r2, rfl, h⟩ := h
  replace h := onil_some h
  obtain ⟨rfl, h⟩ := h
  obtain ⟨aS0, qh0, h⟩ := obind_some h
  obtain ⟨aFrom1, qh1, h⟩ := obind_some h
  obtain ⟨aTo2, qh2, h⟩ := obind_some h
  rw [argV_eq ok qh0, argV_eq ok qh1, argV_eq ok qh2]
  exact call_of (phiE_nat _ _) hs ok mixed Try.func12 (c := laws_FnExactWayOf_code) (by kernel_rfl) (laws_FnExactWayOf_lo n) (by kernel_rfl) (by kernel_rfl) (by kernel_rfl) laws_FnExactWayOf_de ((laws_FnExactWayOf_tie n aS0 aFrom1 aTo2).trans h)
theorem entsOk (n : Nat) : EntsOk Try.prog (ents n) (ents n) := ⟨laws_szIntS_ok n, laws_szClosedS_ok n, laws_szSea_ok n, laws_toIntS_ok n, laws_toClosed_ok n, laws_toClosedS_ok n, laws_toSea_ok n, spec_l1In_ok n, spec_l3All_ok n, spec_SeaOk_ok n, spec_l7Place_ok n, spec_l7Next_ok n, spec_Cheapest_ok n, spec_WayOf_ok n, impl_in_ok n, impl_all_1_ok n, slices_IndexFunc_int_int__impl_all_1_ok n, slices_ContainsFunc_int_int__impl_all_1_ok n, impl_all_ok n, impl_SeaOk_ok n, impl_Sea_place_ok n, impl_Sea_next_ok n, impl_Cheapest_ok n, impl_own_int_ok n, impl_WayOf_ok n, laws_eqIntS_ok n, laws_eqClosed_ok n, laws_eqClosedS_ok n, laws_eqSea_ok n, laws_markIntS_ok n, laws_markClosedS_ok n, laws_markSea_ok n, laws_heldIntS_ok n, laws_FnExactWayOf_ok n, trivial⟩
theorem sem (n i : Nat) : SemOk (Phi n i) (CallOk Try.prog T) := phiE_ok (entsOk n) i
end Go.Sm.B12
