import Derived.Test.YtjilmfkglikoeaaB4Tb
import Derived.KernelRfl
/- Each function's code computes what the plain function computes. -/
set_option linter.unusedSimpArgs false
set_option linter.deprecated false
set_option linter.unusedSectionVars false
set_option linter.unusedVariables false
set_option maxRecDepth 100000
open Go Go.Proofs
noncomputable section
namespace Go.Sm.B4
/-- By recursors, and of a greater height than all of the functions: the kernel takes these apart first. -/
def obind {α β : Type} (o : Option α) (f : α → Option β) : Option β := let _ := @laws_FnExactFlood; Option.rec (motive := fun _ => Option β) none (fun a => f a) o
theorem obind_some {α β : Type} {o : Option α} {f : α → Option β} {y : β} (h : obind o f = some y) : ∃ a, o = some a ∧ f a = some y := by
  cases o with
  | none => cases h
  | some a => exact ⟨a, rfl, h⟩
def ocons {β : Type} (l : List (A T)) (f : A T → List (A T) → Option β) : Option β := let _ := @laws_FnExactFlood; List.rec (motive := fun _ => Option β) none (fun a r _ => f a r) l
theorem ocons_some {β : Type} {l : List (A T)} {f : A T → List (A T) → Option β} {y : β} (h : ocons l f = some y) : ∃ a r, l = a :: r ∧ f a r = some y := by
  cases l with
  | nil => cases h
  | cons a r => exact ⟨a, r, rfl, h⟩
def onil {β : Type} (l : List (A T)) (x : Option β) : Option β := let _ := @laws_FnExactFlood; List.rec (motive := fun _ => Option β) x (fun _ _ _ => none) l
theorem onil_some {β : Type} {l : List (A T)} {x : Option β} {y : β} (h : onil l x = some y) : l = [] ∧ x = some y := by
  cases l with
  | nil => exact ⟨rfl, h⟩
  | cons a r => cases h
def laws_szIntS_dec (res : Res T) : Option Int := match res.rets, res.outs with
  | [a0], [] => (retV (T := T) 3 a0).bind fun r0 => some (r0)
  | _, _ => none
def laws_szIntS_enc (y : Int) : Res T := ⟨[vR T 3 y], []⟩
theorem laws_szIntS_de (res : Res T) (y : Int) (h : laws_szIntS_dec res = some y) : res = laws_szIntS_enc y := by
  obtain ⟨rets, outs⟩ := res
  unfold laws_szIntS_dec at h
  dsimp only at h
  split at h
  · obtain ⟨r0, h0, h⟩ := Option.bind_eq_some_iff.1 h
    cases h
    rw [retV_eq ok h0]
    rfl
  · cases h
def laws_szIntSS_dec (res : Res T) : Option Int := match res.rets, res.outs with
  | [a0], [] => (retV (T := T) 3 a0).bind fun r0 => some (r0)
  | _, _ => none
def laws_szIntSS_enc (y : Int) : Res T := ⟨[vR T 3 y], []⟩
theorem laws_szIntSS_de (res : Res T) (y : Int) (h : laws_szIntSS_dec res = some y) : res = laws_szIntSS_enc y := by
  obtain ⟨rets, outs⟩ := res
  unfold laws_szIntSS_dec at h
  dsimp only at h
  split at h
  · obtain ⟨r0, h0, h⟩ := Option.bind_eq_some_iff.1 h
    cases h
    rw [retV_eq ok h0]
    rfl
  · cases h
def laws_szHull_dec (res : Res T) : Option Int := match res.rets, res.outs with
  | [a0], [] => (retV (T := T) 3 a0).bind fun r0 => some (r0)
  | _, _ => none
def laws_szHull_enc (y : Int) : Res T := ⟨[vR T 3 y], []⟩
theorem laws_szHull_de (res : Res T) (y : Int) (h : laws_szHull_dec res = some y) : res = laws_szHull_enc y := by
  obtain ⟨rets, outs⟩ := res
  unfold laws_szHull_dec at h
  dsimp only at h
  split at h
  · obtain ⟨r0, h0, h⟩ := Option.bind_eq_some_iff.1 h
    cases h
    rw [retV_eq ok h0]
    rfl
  · cases h
def laws_szRoomS_dec (res : Res T) : Option Int := match res.rets, res.outs with
  | [a0], [] => (retV (T := T) 3 a0).bind fun r0 => some (r0)
  | _, _ => none
def laws_szRoomS_enc (y : Int) : Res T := ⟨[vR T 3 y], []⟩
theorem laws_szRoomS_de (res : Res T) (y : Int) (h : laws_szRoomS_dec res = some y) : res = laws_szRoomS_enc y := by
  obtain ⟨rets, outs⟩ := res
  unfold laws_szRoomS_dec at h
  dsimp only at h
  split at h
  · obtain ⟨r0, h0, h⟩ := Option.bind_eq_some_iff.1 h
    cases h
    rw [retV_eq ok h0]
    rfl
  · cases h
def laws_toIntS_dec (res : Res T) : Option (List Int) := match res.rets, res.outs with
  | [a0], [] => (retV (T := T) 55 a0).bind fun r0 => some (r0)
  | _, _ => none
def laws_toIntS_enc (y : List Int) : Res T := ⟨[vR T 55 y], []⟩
theorem laws_toIntS_de (res : Res T) (y : List Int) (h : laws_toIntS_dec res = some y) : res = laws_toIntS_enc y := by
  obtain ⟨rets, outs⟩ := res
  unfold laws_toIntS_dec at h
  dsimp only at h
  split at h
  · obtain ⟨r0, h0, h⟩ := Option.bind_eq_some_iff.1 h
    cases h
    rw [retV_eq ok h0]
    rfl
  · cases h
def laws_toIntSS_dec (res : Res T) : Option (List (List Int)) := match res.rets, res.outs with
  | [a0], [] => (retV (T := T) 24 a0).bind fun r0 => some (r0)
  | _, _ => none
def laws_toIntSS_enc (y : List (List Int)) : Res T := ⟨[vR T 24 y], []⟩
theorem laws_toIntSS_de (res : Res T) (y : List (List Int)) (h : laws_toIntSS_dec res = some y) : res = laws_toIntSS_enc y := by
  obtain ⟨rets, outs⟩ := res
  unfold laws_toIntSS_dec at h
  dsimp only at h
  split at h
  · obtain ⟨r0, h0, h⟩ := Option.bind_eq_some_iff.1 h
    cases h
    rw [retV_eq ok h0]
    rfl
  · cases h
def laws_toHull_dec (res : Res T) : Option SHull := match res.rets, res.outs with
  | [a0], [] => (retV (T := T) 26 a0).bind fun r0 => some (r0)
  | _, _ => none
def laws_toHull_enc (y : SHull) : Res T := ⟨[vR T 26 y], []⟩
theorem laws_toHull_de (res : Res T) (y : SHull) (h : laws_toHull_dec res = some y) : res = laws_toHull_enc y := by
  obtain ⟨rets, outs⟩ := res
  unfold laws_toHull_dec at h
  dsimp only at h
  split at h
  · obtain ⟨r0, h0, h⟩ := Option.bind_eq_some_iff.1 h
    cases h
    rw [retV_eq ok h0]
    rfl
  · cases h
def laws_toRoom_dec (res : Res T) : Option SRoom := match res.rets, res.outs with
  | [a0], [] => (retV (T := T) 166 a0).bind fun r0 => some (r0)
  | _, _ => none
def laws_toRoom_enc (y : SRoom) : Res T := ⟨[vR T 166 y], []⟩
theorem laws_toRoom_de (res : Res T) (y : SRoom) (h : laws_toRoom_dec res = some y) : res = laws_toRoom_enc y := by
  obtain ⟨rets, outs⟩ := res
  unfold laws_toRoom_dec at h
  dsimp only at h
  split at h
  · obtain ⟨r0, h0, h⟩ := Option.bind_eq_some_iff.1 h
    cases h
    rw [retV_eq ok h0]
    rfl
  · cases h
def laws_toRoomS_dec (res : Res T) : Option (List SRoom) := match res.rets, res.outs with
  | [a0], [] => (retV (T := T) 49 a0).bind fun r0 => some (r0)
  | _, _ => none
def laws_toRoomS_enc (y : List SRoom) : Res T := ⟨[vR T 49 y], []⟩
theorem laws_toRoomS_de (res : Res T) (y : List SRoom) (h : laws_toRoomS_dec res = some y) : res = laws_toRoomS_enc y := by
  obtain ⟨rets, outs⟩ := res
  unfold laws_toRoomS_dec at h
  dsimp only at h
  split at h
  · obtain ⟨r0, h0, h⟩ := Option.bind_eq_some_iff.1 h
    cases h
    rw [retV_eq ok h0]
    rfl
  · cases h
def spec_l1In_dec (res : Res T) : Option Bool := match res.rets, res.outs with
  | [a0], [] => (retV (T := T) 4 a0).bind fun r0 => some (r0)
  | _, _ => none
def spec_l1In_enc (y : Bool) : Res T := ⟨[vR T 4 y], []⟩
theorem spec_l1In_de (res : Res T) (y : Bool) (h : spec_l1In_dec res = some y) : res = spec_l1In_enc y := by
  obtain ⟨rets, outs⟩ := res
  unfold spec_l1In_dec at h
  dsimp only at h
  split at h
  · obtain ⟨r0, h0, h⟩ := Option.bind_eq_some_iff.1 h
    cases h
    rw [retV_eq ok h0]
    rfl
  · cases h
def spec_HullOk_dec (res : Res T) : Option Bool := match res.rets, res.outs with
  | [a0], [] => (retV (T := T) 4 a0).bind fun r0 => some (r0)
  | _, _ => none
def spec_HullOk_enc (y : Bool) : Res T := ⟨[vR T 4 y], []⟩
theorem spec_HullOk_de (res : Res T) (y : Bool) (h : spec_HullOk_dec res = some y) : res = spec_HullOk_enc y := by
  obtain ⟨rets, outs⟩ := res
  unfold spec_HullOk_dec at h
  dsimp only at h
  split at h
  · obtain ⟨r0, h0, h⟩ := Option.bind_eq_some_iff.1 h
    cases h
    rw [retV_eq ok h0]
    rfl
  · cases h
def spec_RoomsOk_dec (res : Res T) : Option Bool := match res.rets, res.outs with
  | [a0], [] => (retV (T := T) 4 a0).bind fun r0 => some (r0)
  | _, _ => none
def spec_RoomsOk_enc (y : Bool) : Res T := ⟨[vR T 4 y], []⟩
theorem spec_RoomsOk_de (res : Res T) (y : Bool) (h : spec_RoomsOk_dec res = some y) : res = spec_RoomsOk_enc y := by
  obtain ⟨rets, outs⟩ := res
  unfold spec_RoomsOk_dec at h
  dsimp only at h
  split at h
  · obtain ⟨r0, h0, h⟩ := Option.bind_eq_some_iff.1 h
    cases h
    rw [retV_eq ok h0]
    rfl
  · cases h
def spec_Flood_dec (res : Res T) : Option SHull := match res.rets, res.outs with
  | [a0], [] => (retV (T := T) 26 a0).bind fun r0 => some (r0)
  | _, _ => none
def spec_Flood_enc (y : SHull) : Res T := ⟨[vR T 26 y], []⟩
theorem spec_Flood_de (res : Res T) (y : SHull) (h : spec_Flood_dec res = some y) : res = spec_Flood_enc y := by
  obtain ⟨rets, outs⟩ := res
  unfold spec_Flood_dec at h
  dsimp only at h
  split at h
  · obtain ⟨r0, h0, h⟩ := Option.bind_eq_some_iff.1 h
    cases h
    rw [retV_eq ok h0]
    rfl
  · cases h
def impl_in_dec (res : Res T) : Option Bool := match res.rets, res.outs with
  | [a0], [] => (retV (T := T) 4 a0).bind fun r0 => some (r0)
  | _, _ => none
def impl_in_enc (y : Bool) : Res T := ⟨[vR T 4 y], []⟩
theorem impl_in_de (res : Res T) (y : Bool) (h : impl_in_dec res = some y) : res = impl_in_enc y := by
  obtain ⟨rets, outs⟩ := res
  unfold impl_in_dec at h
  dsimp only at h
  split at h
  · obtain ⟨r0, h0, h⟩ := Option.bind_eq_some_iff.1 h
    cases h
    rw [retV_eq ok h0]
    rfl
  · cases h
def impl_all_1_dec (res : Res T) : Option Bool := match res.rets, res.outs with
  | [a0], [] => (retV (T := T) 4 a0).bind fun r0 => some (r0)
  | _, _ => none
def impl_all_1_enc (y : Bool) : Res T := ⟨[vR T 4 y], []⟩
theorem impl_all_1_de (res : Res T) (y : Bool) (h : impl_all_1_dec res = some y) : res = impl_all_1_enc y := by
  obtain ⟨rets, outs⟩ := res
  unfold impl_all_1_dec at h
  dsimp only at h
  split at h
  · obtain ⟨r0, h0, h⟩ := Option.bind_eq_some_iff.1 h
    cases h
    rw [retV_eq ok h0]
    rfl
  · cases h
def slices_IndexFunc_int_int__impl_all_1_dec (res : Res T) : Option Int := match res.rets, res.outs with
  | [a0], [] => (retV (T := T) 3 a0).bind fun r0 => some (r0)
  | _, _ => none
def slices_IndexFunc_int_int__impl_all_1_enc (y : Int) : Res T := ⟨[vR T 3 y], []⟩
theorem slices_IndexFunc_int_int__impl_all_1_de (res : Res T) (y : Int) (h : slices_IndexFunc_int_int__impl_all_1_dec res = some y) : res = slices_IndexFunc_int_int__impl_all_1_enc y := by
  obtain ⟨rets, outs⟩ := res
  unfold slices_IndexFunc_int_int__impl_all_1_dec at h
  dsimp only at h
  split at h
  · obtain ⟨r0, h0, h⟩ := Option.bind_eq_some_iff.1 h
    cases h
    rw [retV_eq ok h0]
    rfl
  · cases h
def slices_ContainsFunc_int_int__impl_all_1_dec (res : Res T) : Option Bool := match res.rets, res.outs with
  | [a0], [] => (retV (T := T) 4 a0).bind fun r0 => some (r0)
  | _, _ => none
def slices_ContainsFunc_int_int__impl_all_1_enc (y : Bool) : Res T := ⟨[vR T 4 y], []⟩
theorem slices_ContainsFunc_int_int__impl_all_1_de (res : Res T) (y : Bool) (h : slices_ContainsFunc_int_int__impl_all_1_dec res = some y) : res = slices_ContainsFunc_int_int__impl_all_1_enc y := by
  obtain ⟨rets, outs⟩ := res
  unfold slices_ContainsFunc_int_int__impl_all_1_dec at h
  dsimp only at h
  split at h
  · obtain ⟨r0, h0, h⟩ := Option.bind_eq_some_iff.1 h
    cases h
    rw [retV_eq ok h0]
    rfl
  · cases h
def impl_all_dec (res : Res T) : Option Bool := match res.rets, res.outs with
  | [a0], [] => (retV (T := T) 4 a0).bind fun r0 => some (r0)
  | _, _ => none
def impl_all_enc (y : Bool) : Res T := ⟨[vR T 4 y], []⟩
theorem impl_all_de (res : Res T) (y : Bool) (h : impl_all_dec res = some y) : res = impl_all_enc y := by
  obtain ⟨rets, outs⟩ := res
  unfold impl_all_dec at h
  dsimp only at h
  split at h
  · obtain ⟨r0, h0, h⟩ := Option.bind_eq_some_iff.1 h
    cases h
    rw [retV_eq ok h0]
    rfl
  · cases h
def impl_HullOk_dec (res : Res T) : Option Bool := match res.rets, res.outs with
  | [a0], [] => (retV (T := T) 4 a0).bind fun r0 => some (r0)
  | _, _ => none
def impl_HullOk_enc (y : Bool) : Res T := ⟨[vR T 4 y], []⟩
theorem impl_HullOk_de (res : Res T) (y : Bool) (h : impl_HullOk_dec res = some y) : res = impl_HullOk_enc y := by
  obtain ⟨rets, outs⟩ := res
  unfold impl_HullOk_dec at h
  dsimp only at h
  split at h
  · obtain ⟨r0, h0, h⟩ := Option.bind_eq_some_iff.1 h
    cases h
    rw [retV_eq ok h0]
    rfl
  · cases h
def impl_RoomsOk_dec (res : Res T) : Option Bool := match res.rets, res.outs with
  | [a0], [] => (retV (T := T) 4 a0).bind fun r0 => some (r0)
  | _, _ => none
def impl_RoomsOk_enc (y : Bool) : Res T := ⟨[vR T 4 y], []⟩
theorem impl_RoomsOk_de (res : Res T) (y : Bool) (h : impl_RoomsOk_dec res = some y) : res = impl_RoomsOk_enc y := by
  obtain ⟨rets, outs⟩ := res
  unfold impl_RoomsOk_dec at h
  dsimp only at h
  split at h
  · obtain ⟨r0, h0, h⟩ := Option.bind_eq_some_iff.1 h
    cases h
    rw [retV_eq ok h0]
    rfl
  · cases h
def impl_own_int_dec (res : Res T) : Option (List Int) := match res.rets, res.outs with
  | [a0], [] => (retV (T := T) 55 a0).bind fun r0 => some (r0)
  | _, _ => none
def impl_own_int_enc (y : List Int) : Res T := ⟨[vR T 55 y], []⟩
theorem impl_own_int_de (res : Res T) (y : List Int) (h : impl_own_int_dec res = some y) : res = impl_own_int_enc y := by
  obtain ⟨rets, outs⟩ := res
  unfold impl_own_int_dec at h
  dsimp only at h
  split at h
  · obtain ⟨r0, h0, h⟩ := Option.bind_eq_some_iff.1 h
    cases h
    rw [retV_eq ok h0]
    rfl
  · cases h
def impl_own_int_f105_dec (res : Res T) : Option (List (List Int)) := match res.rets, res.outs with
  | [a0], [] => (retV (T := T) 24 a0).bind fun r0 => some (r0)
  | _, _ => none
def impl_own_int_f105_enc (y : List (List Int)) : Res T := ⟨[vR T 24 y], []⟩
theorem impl_own_int_f105_de (res : Res T) (y : List (List Int)) (h : impl_own_int_f105_dec res = some y) : res = impl_own_int_f105_enc y := by
  obtain ⟨rets, outs⟩ := res
  unfold impl_own_int_f105_dec at h
  dsimp only at h
  split at h
  · obtain ⟨r0, h0, h⟩ := Option.bind_eq_some_iff.1 h
    cases h
    rw [retV_eq ok h0]
    rfl
  · cases h
def impl_Flood_dec (res : Res T) : Option SHull := match res.rets, res.outs with
  | [a0], [] => (retV (T := T) 26 a0).bind fun r0 => some (r0)
  | _, _ => none
def impl_Flood_enc (y : SHull) : Res T := ⟨[vR T 26 y], []⟩
theorem impl_Flood_de (res : Res T) (y : SHull) (h : impl_Flood_dec res = some y) : res = impl_Flood_enc y := by
  obtain ⟨rets, outs⟩ := res
  unfold impl_Flood_dec at h
  dsimp only at h
  split at h
  · obtain ⟨r0, h0, h⟩ := Option.bind_eq_some_iff.1 h
    cases h
    rw [retV_eq ok h0]
    rfl
  · cases h
def laws_eqIntS_dec (res : Res T) : Option Bool := match res.rets, res.outs with
  | [a0], [] => (retV (T := T) 4 a0).bind fun r0 => some (r0)
  | _, _ => none
def laws_eqIntS_enc (y : Bool) : Res T := ⟨[vR T 4 y], []⟩
theorem laws_eqIntS_de (res : Res T) (y : Bool) (h : laws_eqIntS_dec res = some y) : res = laws_eqIntS_enc y := by
  obtain ⟨rets, outs⟩ := res
  unfold laws_eqIntS_dec at h
  dsimp only at h
  split at h
  · obtain ⟨r0, h0, h⟩ := Option.bind_eq_some_iff.1 h
    cases h
    rw [retV_eq ok h0]
    rfl
  · cases h
def laws_eqIntSS_dec (res : Res T) : Option Bool := match res.rets, res.outs with
  | [a0], [] => (retV (T := T) 4 a0).bind fun r0 => some (r0)
  | _, _ => none
def laws_eqIntSS_enc (y : Bool) : Res T := ⟨[vR T 4 y], []⟩
theorem laws_eqIntSS_de (res : Res T) (y : Bool) (h : laws_eqIntSS_dec res = some y) : res = laws_eqIntSS_enc y := by
  obtain ⟨rets, outs⟩ := res
  unfold laws_eqIntSS_dec at h
  dsimp only at h
  split at h
  · obtain ⟨r0, h0, h⟩ := Option.bind_eq_some_iff.1 h
    cases h
    rw [retV_eq ok h0]
    rfl
  · cases h
def laws_eqHull_dec (res : Res T) : Option Bool := match res.rets, res.outs with
  | [a0], [] => (retV (T := T) 4 a0).bind fun r0 => some (r0)
  | _, _ => none
def laws_eqHull_enc (y : Bool) : Res T := ⟨[vR T 4 y], []⟩
theorem laws_eqHull_de (res : Res T) (y : Bool) (h : laws_eqHull_dec res = some y) : res = laws_eqHull_enc y := by
  obtain ⟨rets, outs⟩ := res
  unfold laws_eqHull_dec at h
  dsimp only at h
  split at h
  · obtain ⟨r0, h0, h⟩ := Option.bind_eq_some_iff.1 h
    cases h
    rw [retV_eq ok h0]
    rfl
  · cases h
def laws_eqRoom_dec (res : Res T) : Option Bool := match res.rets, res.outs with
  | [a0], [] => (retV (T := T) 4 a0).bind fun r0 => some (r0)
  | _, _ => none
def laws_eqRoom_enc (y : Bool) : Res T := ⟨[vR T 4 y], []⟩
theorem laws_eqRoom_de (res : Res T) (y : Bool) (h : laws_eqRoom_dec res = some y) : res = laws_eqRoom_enc y := by
  obtain ⟨rets, outs⟩ := res
  unfold laws_eqRoom_dec at h
  dsimp only at h
  split at h
  · obtain ⟨r0, h0, h⟩ := Option.bind_eq_some_iff.1 h
    cases h
    rw [retV_eq ok h0]
    rfl
  · cases h
def laws_eqRoomS_dec (res : Res T) : Option Bool := match res.rets, res.outs with
  | [a0], [] => (retV (T := T) 4 a0).bind fun r0 => some (r0)
  | _, _ => none
def laws_eqRoomS_enc (y : Bool) : Res T := ⟨[vR T 4 y], []⟩
theorem laws_eqRoomS_de (res : Res T) (y : Bool) (h : laws_eqRoomS_dec res = some y) : res = laws_eqRoomS_enc y := by
  obtain ⟨rets, outs⟩ := res
  unfold laws_eqRoomS_dec at h
  dsimp only at h
  split at h
  · obtain ⟨r0, h0, h⟩ := Option.bind_eq_some_iff.1 h
    cases h
    rw [retV_eq ok h0]
    rfl
  · cases h
def laws_markIntS_dec (res : Res T) : Option (Int × List Int) := match res.rets, res.outs with
  | [a0], [b0] => (retV (T := T) 3 a0).bind fun r0 => (outS (T := T) 3 b0).bind fun r1 => some (r0, r1)
  | _, _ => none
def laws_markIntS_enc (y : Int × List Int) : Res T := ⟨[vR T 3 y.1], [.sl 3 y.2]⟩
theorem laws_markIntS_de (res : Res T) (y : Int × List Int) (h : laws_markIntS_dec res = some y) : res = laws_markIntS_enc y := by
  obtain ⟨rets, outs⟩ := res
  unfold laws_markIntS_dec at h
  dsimp only at h
  split at h
  · obtain ⟨r0, h0, h⟩ := Option.bind_eq_some_iff.1 h
    obtain ⟨r1, h1, h⟩ := Option.bind_eq_some_iff.1 h
    cases h
    rw [retV_eq ok h0, outS_eq h1]
    rfl
  · cases h
def laws_markIntSS_dec (res : Res T) : Option (Int × List (List Int)) := match res.rets, res.outs with
  | [a0], [b0] => (retV (T := T) 3 a0).bind fun r0 => (outS (T := T) 55 b0).bind fun r1 => some (r0, r1)
  | _, _ => none
def laws_markIntSS_enc (y : Int × List (List Int)) : Res T := ⟨[vR T 3 y.1], [.sl 55 y.2]⟩
theorem laws_markIntSS_de (res : Res T) (y : Int × List (List Int)) (h : laws_markIntSS_dec res = some y) : res = laws_markIntSS_enc y := by
  obtain ⟨rets, outs⟩ := res
  unfold laws_markIntSS_dec at h
  dsimp only at h
  split at h
  · obtain ⟨r0, h0, h⟩ := Option.bind_eq_some_iff.1 h
    obtain ⟨r1, h1, h⟩ := Option.bind_eq_some_iff.1 h
    cases h
    rw [retV_eq ok h0, outS_eq h1]
    rfl
  · cases h
def laws_markHull_dec (res : Res T) : Option (Int × List (List Int)) := match res.rets, res.outs with
  | [a0], [b0] => (retV (T := T) 3 a0).bind fun r0 => (outS (T := T) 55 b0).bind fun r1 => some (r0, r1)
  | _, _ => none
def laws_markHull_enc (y : Int × List (List Int)) : Res T := ⟨[vR T 3 y.1], [.sl 55 y.2]⟩
theorem laws_markHull_de (res : Res T) (y : Int × List (List Int)) (h : laws_markHull_dec res = some y) : res = laws_markHull_enc y := by
  obtain ⟨rets, outs⟩ := res
  unfold laws_markHull_dec at h
  dsimp only at h
  split at h
  · obtain ⟨r0, h0, h⟩ := Option.bind_eq_some_iff.1 h
    obtain ⟨r1, h1, h⟩ := Option.bind_eq_some_iff.1 h
    cases h
    rw [retV_eq ok h0, outS_eq h1]
    rfl
  · cases h
def laws_markRoomS_dec (res : Res T) : Option (Int × List SRoom) := match res.rets, res.outs with
  | [a0], [b0] => (retV (T := T) 3 a0).bind fun r0 => (outS (T := T) 166 b0).bind fun r1 => some (r0, r1)
  | _, _ => none
def laws_markRoomS_enc (y : Int × List SRoom) : Res T := ⟨[vR T 3 y.1], [.sl 166 y.2]⟩
theorem laws_markRoomS_de (res : Res T) (y : Int × List SRoom) (h : laws_markRoomS_dec res = some y) : res = laws_markRoomS_enc y := by
  obtain ⟨rets, outs⟩ := res
  unfold laws_markRoomS_dec at h
  dsimp only at h
  split at h
  · obtain ⟨r0, h0, h⟩ := Option.bind_eq_some_iff.1 h
    obtain ⟨r1, h1, h⟩ := Option.bind_eq_some_iff.1 h
    cases h
    rw [retV_eq ok h0, outS_eq h1]
    rfl
  · cases h
def laws_heldIntS_dec (res : Res T) : Option Int := match res.rets, res.outs with
  | [a0], [] => (retV (T := T) 3 a0).bind fun r0 => some (r0)
  | _, _ => none
def laws_heldIntS_enc (y : Int) : Res T := ⟨[vR T 3 y], []⟩
theorem laws_heldIntS_de (res : Res T) (y : Int) (h : laws_heldIntS_dec res = some y) : res = laws_heldIntS_enc y := by
  obtain ⟨rets, outs⟩ := res
  unfold laws_heldIntS_dec at h
  dsimp only at h
  split at h
  · obtain ⟨r0, h0, h⟩ := Option.bind_eq_some_iff.1 h
    cases h
    rw [retV_eq ok h0]
    rfl
  · cases h
def laws_heldIntSS_dec (res : Res T) : Option Int := match res.rets, res.outs with
  | [a0], [] => (retV (T := T) 3 a0).bind fun r0 => some (r0)
  | _, _ => none
def laws_heldIntSS_enc (y : Int) : Res T := ⟨[vR T 3 y], []⟩
theorem laws_heldIntSS_de (res : Res T) (y : Int) (h : laws_heldIntSS_dec res = some y) : res = laws_heldIntSS_enc y := by
  obtain ⟨rets, outs⟩ := res
  unfold laws_heldIntSS_dec at h
  dsimp only at h
  split at h
  · obtain ⟨r0, h0, h⟩ := Option.bind_eq_some_iff.1 h
    cases h
    rw [retV_eq ok h0]
    rfl
  · cases h
def laws_heldHull_dec (res : Res T) : Option Int := match res.rets, res.outs with
  | [a0], [] => (retV (T := T) 3 a0).bind fun r0 => some (r0)
  | _, _ => none
def laws_heldHull_enc (y : Int) : Res T := ⟨[vR T 3 y], []⟩
theorem laws_heldHull_de (res : Res T) (y : Int) (h : laws_heldHull_dec res = some y) : res = laws_heldHull_enc y := by
  obtain ⟨rets, outs⟩ := res
  unfold laws_heldHull_dec at h
  dsimp only at h
  split at h
  · obtain ⟨r0, h0, h⟩ := Option.bind_eq_some_iff.1 h
    cases h
    rw [retV_eq ok h0]
    rfl
  · cases h
def laws_FnExactFlood_dec (res : Res T) : Option Bool := match res.rets, res.outs with
  | [a0], [] => (retV (T := T) 4 a0).bind fun r0 => some (r0)
  | _, _ => none
def laws_FnExactFlood_enc (y : Bool) : Res T := ⟨[vR T 4 y], []⟩
theorem laws_FnExactFlood_de (res : Res T) (y : Bool) (h : laws_FnExactFlood_dec res = some y) : res = laws_FnExactFlood_enc y := by
  obtain ⟨rets, outs⟩ := res
  unfold laws_FnExactFlood_dec at h
  dsimp only at h
  split at h
  · obtain ⟨r0, h0, h⟩ := Option.bind_eq_some_iff.1 h
    cases h
    rw [retV_eq ok h0]
    rfl
  · cases h
def laws_szIntS_D (n : Nat) (r0 : List (A T)) : Option Int := ocons r0 fun a0 r1 => ocons r1 fun a1 r2 => onil r2 (obind (argV (T := T) 55 a0) fun a0 => obind (argV (T := T) 3 a1) fun left1 => laws_szIntS n a0 left1)
def laws_szIntS_ent (n : Nat) : Ent T := ⟨110, 0, [], Int, laws_szIntS_D n, laws_szIntS_enc⟩
def laws_szIntSS_D (n : Nat) (r0 : List (A T)) : Option Int := ocons r0 fun a0 r1 => ocons r1 fun a1 r2 => onil r2 (obind (argV (T := T) 24 a0) fun a0 => obind (argV (T := T) 3 a1) fun left1 => laws_szIntSS n a0 left1)
def laws_szIntSS_ent (n : Nat) : Ent T := ⟨98, 1, [], Int, laws_szIntSS_D n, laws_szIntSS_enc⟩
def laws_szHull_D (n : Nat) (r0 : List (A T)) : Option Int := ocons r0 fun a0 r1 => ocons r1 fun a1 r2 => onil r2 (obind (argV (T := T) 43 a0) fun a0 => obind (argV (T := T) 3 a1) fun left1 => laws_szHull n a0 left1)
def laws_szHull_ent (n : Nat) : Ent T := ⟨22, 2, [], Int, laws_szHull_D n, laws_szHull_enc⟩
def laws_szRoomS_D (n : Nat) (r0 : List (A T)) : Option Int := ocons r0 fun a0 r1 => ocons r1 fun a1 r2 => onil r2 (obind (argV (T := T) 44 a0) fun a0 => obind (argV (T := T) 3 a1) fun left1 => laws_szRoomS n a0 left1)
def laws_szRoomS_ent (n : Nat) : Ent T := ⟨23, 3, [], Int, laws_szRoomS_D n, laws_szRoomS_enc⟩
def laws_toIntS_D (n : Nat) (r0 : List (A T)) : Option (List Int) := ocons r0 fun a0 r1 => onil r1 (obind (argV (T := T) 55 a0) fun a0 => laws_toIntS n a0)
def laws_toIntS_ent (n : Nat) : Ent T := ⟨112, 4, [], List Int, laws_toIntS_D n, laws_toIntS_enc⟩
def laws_toIntSS_D (n : Nat) (r0 : List (A T)) : Option (List (List Int)) := ocons r0 fun a0 r1 => onil r1 (obind (argV (T := T) 24 a0) fun a0 => laws_toIntSS n a0)
def laws_toIntSS_ent (n : Nat) : Ent T := ⟨101, 5, [], List (List Int), laws_toIntSS_D n, laws_toIntSS_enc⟩
def laws_toHull_D (n : Nat) (r0 : List (A T)) : Option SHull := ocons r0 fun a0 r1 => onil r1 (obind (argV (T := T) 43 a0) fun a0 => laws_toHull n a0)
def laws_toHull_ent (n : Nat) : Ent T := ⟨25, 6, [], SHull, laws_toHull_D n, laws_toHull_enc⟩
def laws_toRoom_D (n : Nat) (r0 : List (A T)) : Option SRoom := ocons r0 fun a0 r1 => onil r1 (obind (argV (T := T) 169 a0) fun a0 => laws_toRoom n a0)
def laws_toRoom_ent (n : Nat) : Ent T := ⟨102, 7, [], SRoom, laws_toRoom_D n, laws_toRoom_enc⟩
def laws_toRoomS_D (n : Nat) (r0 : List (A T)) : Option (List SRoom) := ocons r0 fun a0 r1 => onil r1 (obind (argV (T := T) 44 a0) fun a0 => laws_toRoomS n a0)
def laws_toRoomS_ent (n : Nat) : Ent T := ⟨26, 8, [], List SRoom, laws_toRoomS_D n, laws_toRoomS_enc⟩
def spec_l1In_D (n : Nat) (r0 : List (A T)) : Option Bool := ocons r0 fun a0 r1 => ocons r1 fun a1 r2 => ocons r2 fun a2 r3 => onil r3 (obind (argV (T := T) 3 a0) fun x0 => obind (argV (T := T) 3 a1) fun a1 => obind (argV (T := T) 3 a2) fun b2 => spec_l1In n x0 a1 b2)
def spec_l1In_ent (n : Nat) : Ent T := ⟨100, 9, [], Bool, spec_l1In_D n, spec_l1In_enc⟩
def spec_HullOk_D (n : Nat) (r0 : List (A T)) : Option Bool := ocons r0 fun a0 r1 => onil r1 (obind (argV (T := T) 26 a0) fun h0 => spec_HullOk n h0)
def spec_HullOk_ent (n : Nat) : Ent T := ⟨189, 10, [], Bool, spec_HullOk_D n, spec_HullOk_enc⟩
def spec_RoomsOk_D (n : Nat) (r0 : List (A T)) : Option Bool := ocons r0 fun a0 r1 => ocons r1 fun a1 r2 => onil r2 (obind (argV (T := T) 26 a0) fun h0 => obind (argV (T := T) 49 a1) fun rooms1 => spec_RoomsOk n h0 rooms1)
def spec_RoomsOk_ent (n : Nat) : Ent T := ⟨99, 11, [], Bool, spec_RoomsOk_D n, spec_RoomsOk_enc⟩
def spec_Flood_D (n : Nat) (r0 : List (A T)) : Option SHull := ocons r0 fun a0 r1 => ocons r1 fun a1 r2 => onil r2 (obind (argV (T := T) 26 a0) fun h0 => obind (argV (T := T) 49 a1) fun rooms1 => spec_Flood n h0 rooms1)
def spec_Flood_ent (n : Nat) : Ent T := ⟨24, 12, [], SHull, spec_Flood_D n, spec_Flood_enc⟩
def impl_in_D (n : Nat) (r0 : List (A T)) : Option Bool := ocons r0 fun a0 r1 => ocons r1 fun a1 r2 => ocons r2 fun a2 r3 => onil r3 (obind (argV (T := T) 3 a0) fun n0 => obind (argV (T := T) 3 a1) fun least1 => obind (argV (T := T) 3 a2) fun most2 => impl_in n n0 least1 most2)
def impl_in_ent (n : Nat) : Ent T := ⟨119, 13, [], Bool, impl_in_D n, impl_in_enc⟩
def impl_all_1_D (n : Nat) (r0 : List (A T)) : Option Bool := ocons r0 fun a0 r1 => ocons r1 fun a1 r2 => ocons r2 fun a2 r3 => onil r3 (obind (argV (T := T) 3 a0) fun n0 => obind (argP (T := T) 3 a1) fun a1 => obind (argP (T := T) 3 a2) fun a2 => impl_all_1 n n0 a1 a2)
def impl_all_1_ent (n : Nat) : Ent T := ⟨196, 14, [], Bool, impl_all_1_D n, impl_all_1_enc⟩
def slices_IndexFunc_int_int__impl_all_1_D (n : Nat) (ar : List (A T)) : Option Int := match ar with
  | [a0, .fn _ [k1_0, k1_1]] => obind (argV (T := T) 55 a0) fun s0 => obind (argP (T := T) 3 k1_0) fun f1c0 => obind (argP (T := T) 3 k1_1) fun f1c1 => slices_IndexFunc_int_int__impl_all_1 n s0 f1c0 f1c1
  | _ => none
def slices_IndexFunc_int_int__impl_all_1_ent (n : Nat) : Ent T := ⟨222, 15, [196], Int, slices_IndexFunc_int_int__impl_all_1_D n, slices_IndexFunc_int_int__impl_all_1_enc⟩
def slices_ContainsFunc_int_int__impl_all_1_D (n : Nat) (ar : List (A T)) : Option Bool := match ar with
  | [a0, .fn _ [k1_0, k1_1]] => obind (argV (T := T) 55 a0) fun s0 => obind (argP (T := T) 3 k1_0) fun f1c0 => obind (argP (T := T) 3 k1_1) fun f1c1 => slices_ContainsFunc_int_int__impl_all_1 n s0 f1c0 f1c1
  | _ => none
def slices_ContainsFunc_int_int__impl_all_1_ent (n : Nat) : Ent T := ⟨158, 16, [196], Bool, slices_ContainsFunc_int_int__impl_all_1_D n, slices_ContainsFunc_int_int__impl_all_1_enc⟩
def impl_all_D (n : Nat) (r0 : List (A T)) : Option Bool := ocons r0 fun a0 r1 => ocons r1 fun a1 r2 => ocons r2 fun a2 r3 => onil r3 (obind (argV (T := T) 55 a0) fun l0 => obind (argV (T := T) 3 a1) fun least1 => obind (argV (T := T) 3 a2) fun most2 => impl_all n l0 least1 most2)
def impl_all_ent (n : Nat) : Ent T := ⟨120, 17, [], Bool, impl_all_D n, impl_all_enc⟩
def impl_HullOk_D (n : Nat) (r0 : List (A T)) : Option Bool := ocons r0 fun a0 r1 => onil r1 (obind (argV (T := T) 26 a0) fun h0 => impl_HullOk n h0)
def impl_HullOk_ent (n : Nat) : Ent T := ⟨190, 18, [], Bool, impl_HullOk_D n, impl_HullOk_enc⟩
def impl_RoomsOk_D (n : Nat) (r0 : List (A T)) : Option Bool := ocons r0 fun a0 r1 => ocons r1 fun a1 r2 => onil r2 (obind (argV (T := T) 26 a0) fun h0 => obind (argV (T := T) 49 a1) fun rooms1 => impl_RoomsOk n h0 rooms1)
def impl_RoomsOk_ent (n : Nat) : Ent T := ⟨103, 19, [], Bool, impl_RoomsOk_D n, impl_RoomsOk_enc⟩
def impl_own_int_D (n : Nat) (r0 : List (A T)) : Option (List Int) := ocons r0 fun a0 r1 => onil r1 (obind (argV (T := T) 55 a0) fun l0 => impl_own_int n l0)
def impl_own_int_ent (n : Nat) : Ent T := ⟨104, 20, [], List Int, impl_own_int_D n, impl_own_int_enc⟩
def impl_own_int_f105_D (n : Nat) (r0 : List (A T)) : Option (List (List Int)) := ocons r0 fun a0 r1 => onil r1 (obind (argV (T := T) 24 a0) fun l0 => impl_own_int_f105 n l0)
def impl_own_int_f105_ent (n : Nat) : Ent T := ⟨105, 21, [], List (List Int), impl_own_int_f105_D n, impl_own_int_f105_enc⟩
def impl_Flood_D (n : Nat) (r0 : List (A T)) : Option SHull := ocons r0 fun a0 r1 => ocons r1 fun a1 r2 => onil r2 (obind (argV (T := T) 26 a0) fun h0 => obind (argV (T := T) 49 a1) fun rooms1 => impl_Flood n h0 rooms1)
def impl_Flood_ent (n : Nat) : Ent T := ⟨27, 22, [], SHull, impl_Flood_D n, impl_Flood_enc⟩
def laws_eqIntS_D (n : Nat) (r0 : List (A T)) : Option Bool := ocons r0 fun a0 r1 => ocons r1 fun a1 r2 => onil r2 (obind (argV (T := T) 55 a0) fun a0 => obind (argV (T := T) 55 a1) fun b1 => laws_eqIntS n a0 b1)
def laws_eqIntS_ent (n : Nat) : Ent T := ⟨37, 23, [], Bool, laws_eqIntS_D n, laws_eqIntS_enc⟩
def laws_eqIntSS_D (n : Nat) (r0 : List (A T)) : Option Bool := ocons r0 fun a0 r1 => ocons r1 fun a1 r2 => onil r2 (obind (argV (T := T) 24 a0) fun a0 => obind (argV (T := T) 24 a1) fun b1 => laws_eqIntSS n a0 b1)
def laws_eqIntSS_ent (n : Nat) : Ent T := ⟨106, 24, [], Bool, laws_eqIntSS_D n, laws_eqIntSS_enc⟩
def laws_eqHull_D (n : Nat) (r0 : List (A T)) : Option Bool := ocons r0 fun a0 r1 => ocons r1 fun a1 r2 => onil r2 (obind (argV (T := T) 26 a0) fun a0 => obind (argV (T := T) 26 a1) fun b1 => laws_eqHull n a0 b1)
def laws_eqHull_ent (n : Nat) : Ent T := ⟨28, 25, [], Bool, laws_eqHull_D n, laws_eqHull_enc⟩
def laws_eqRoom_D (n : Nat) (r0 : List (A T)) : Option Bool := ocons r0 fun a0 r1 => ocons r1 fun a1 r2 => onil r2 (obind (argV (T := T) 166 a0) fun a0 => obind (argV (T := T) 166 a1) fun b1 => laws_eqRoom n a0 b1)
def laws_eqRoom_ent (n : Nat) : Ent T := ⟨107, 26, [], Bool, laws_eqRoom_D n, laws_eqRoom_enc⟩
def laws_eqRoomS_D (n : Nat) (r0 : List (A T)) : Option Bool := ocons r0 fun a0 r1 => ocons r1 fun a1 r2 => onil r2 (obind (argV (T := T) 49 a0) fun a0 => obind (argV (T := T) 49 a1) fun b1 => laws_eqRoomS n a0 b1)
def laws_eqRoomS_ent (n : Nat) : Ent T := ⟨29, 27, [], Bool, laws_eqRoomS_D n, laws_eqRoomS_enc⟩
def laws_markIntS_D (n : Nat) (r0 : List (A T)) : Option (Int × List Int) := ocons r0 fun a0 r1 => ocons r1 fun a1 r2 => onil r2 (obind (argV (T := T) 55 a0) fun a0 => obind (argV (T := T) 3 a1) fun k1 => laws_markIntS n a0 k1)
def laws_markIntS_ent (n : Nat) : Ent T := ⟨40, 28, [], Int × List Int, laws_markIntS_D n, laws_markIntS_enc⟩
def laws_markIntSS_D (n : Nat) (r0 : List (A T)) : Option (Int × List (List Int)) := ocons r0 fun a0 r1 => ocons r1 fun a1 r2 => onil r2 (obind (argV (T := T) 24 a0) fun a0 => obind (argV (T := T) 3 a1) fun k1 => laws_markIntSS n a0 k1)
def laws_markIntSS_ent (n : Nat) : Ent T := ⟨108, 29, [], Int × List (List Int), laws_markIntSS_D n, laws_markIntSS_enc⟩
def laws_markHull_D (n : Nat) (r0 : List (A T)) : Option (Int × List (List Int)) := ocons r0 fun a0 r1 => ocons r1 fun a1 r2 => onil r2 (obind (argV (T := T) 26 a0) fun a0 => obind (argV (T := T) 3 a1) fun k1 => laws_markHull n a0 k1)
def laws_markHull_ent (n : Nat) : Ent T := ⟨30, 30, [], Int × List (List Int), laws_markHull_D n, laws_markHull_enc⟩
def laws_markRoomS_D (n : Nat) (r0 : List (A T)) : Option (Int × List SRoom) := ocons r0 fun a0 r1 => ocons r1 fun a1 r2 => onil r2 (obind (argV (T := T) 49 a0) fun a0 => obind (argV (T := T) 3 a1) fun k1 => laws_markRoomS n a0 k1)
def laws_markRoomS_ent (n : Nat) : Ent T := ⟨31, 31, [], Int × List SRoom, laws_markRoomS_D n, laws_markRoomS_enc⟩
def laws_heldIntS_D (n : Nat) (r0 : List (A T)) : Option Int := ocons r0 fun a0 r1 => ocons r1 fun a1 r2 => onil r2 (obind (argV (T := T) 55 a0) fun a0 => obind (argV (T := T) 3 a1) fun k1 => laws_heldIntS n a0 k1)
def laws_heldIntS_ent (n : Nat) : Ent T := ⟨41, 32, [], Int, laws_heldIntS_D n, laws_heldIntS_enc⟩
def laws_heldIntSS_D (n : Nat) (r0 : List (A T)) : Option Int := ocons r0 fun a0 r1 => ocons r1 fun a1 r2 => onil r2 (obind (argV (T := T) 24 a0) fun a0 => obind (argV (T := T) 3 a1) fun k1 => laws_heldIntSS n a0 k1)
def laws_heldIntSS_ent (n : Nat) : Ent T := ⟨109, 33, [], Int, laws_heldIntSS_D n, laws_heldIntSS_enc⟩
def laws_heldHull_D (n : Nat) (r0 : List (A T)) : Option Int := ocons r0 fun a0 r1 => ocons r1 fun a1 r2 => onil r2 (obind (argV (T := T) 26 a0) fun a0 => obind (argV (T := T) 3 a1) fun k1 => laws_heldHull n a0 k1)
def laws_heldHull_ent (n : Nat) : Ent T := ⟨32, 34, [], Int, laws_heldHull_D n, laws_heldHull_enc⟩
def laws_FnExactFlood_D (n : Nat) (r0 : List (A T)) : Option Bool := ocons r0 fun a0 r1 => ocons r1 fun a1 r2 => onil r2 (obind (argV (T := T) 43 a0) fun aH0 => obind (argV (T := T) 44 a1) fun aRooms1 => laws_FnExactFlood n aH0 aRooms1)
def laws_FnExactFlood_ent (n : Nat) : Ent T := ⟨4, 35, [], Bool, laws_FnExactFlood_D n, laws_FnExactFlood_enc⟩
def ents (n : Nat) : List (Ent T) := [laws_szIntS_ent n, laws_szIntSS_ent n, laws_szHull_ent n, laws_szRoomS_ent n, laws_toIntS_ent n, laws_toIntSS_ent n, laws_toHull_ent n, laws_toRoom_ent n, laws_toRoomS_ent n, spec_l1In_ent n, spec_HullOk_ent n, spec_RoomsOk_ent n, spec_Flood_ent n, impl_in_ent n, impl_all_1_ent n, slices_IndexFunc_int_int__impl_all_1_ent n, slices_ContainsFunc_int_int__impl_all_1_ent n, impl_all_ent n, impl_HullOk_ent n, impl_RoomsOk_ent n, impl_own_int_ent n, impl_own_int_f105_ent n, impl_Flood_ent n, laws_eqIntS_ent n, laws_eqIntSS_ent n, laws_eqHull_ent n, laws_eqRoom_ent n, laws_eqRoomS_ent n, laws_markIntS_ent n, laws_markIntSS_ent n, laws_markHull_ent n, laws_markRoomS_ent n, laws_heldIntS_ent n, laws_heldIntSS_ent n, laws_heldHull_ent n, laws_FnExactFlood_ent n]
abbrev Phi (n i : Nat) {R : Type} (f : Nat) (ar : List (A T)) (K : Res T → Option R) : Option R := PhiE (ents n) i f ar K
theorem mixed : Try.prog.follows .mixedOrders = true := by kernel_rfl
noncomputable def laws_szIntS_code : Code := match Try.f110.body with | some c => c | none => .skip
def laws_szIntS_ann : Ann := fun id => none
def laws_szIntS_Ls (n : Nat) : Nat → Option (LSpec T) := fun id => none
theorem laws_szIntS_tie (n : Nat) (a0 : List Int) (left1 : Int) : evF (T := T) (Phi n 0) (laws_szIntS_Ls n) laws_szIntS_ann n Try.f110 (sg 110) [vA T 55 a0, vA T 3 left1] laws_szIntS_dec = laws_szIntS n a0 left1 := by kernel_rfl
theorem laws_szIntS_lo (n : Nat) : LoopsOk (T := T) (Phi n 0) (laws_szIntS_Ls n) laws_szIntS_ann n laws_szIntS_code := loopsOk_all (cs := []) (by kernel_rfl) trivial
theorem laws_szIntS_ok (n : Nat) : EntOk Try.prog (ents n) (laws_szIntS_ent n) := by
  intro hs ar y hg h
  replace h : laws_szIntS_D n ar = some y := h
  unfold laws_szIntS_D at h
  replace h := ocons_some h
  obtain ⟨a0, r0, rfl, h⟩ := h
  replace h := ocons_some h
  obtain ⟨a1, r1, rfl, h⟩ := h
  replace h := onil_some h
  obtain ⟨rfl, h⟩ := h
  obtain ⟨a0, qh0, h⟩ := obind_some h
  obtain ⟨left1, qh1, h⟩ := obind_some h
  rw [argV_eq ok qh0, argV_eq ok qh1]
  exact call_of (phiE_nat _ _) hs ok mixed Try.func110 (c := laws_szIntS_code) (by kernel_rfl) (laws_szIntS_lo n) (by kernel_rfl) (by kernel_rfl) (by kernel_rfl) laws_szIntS_de ((laws_szIntS_tie n a0 left1).trans h)
noncomputable def laws_szIntSS_code : Code := match Try.f98.body with | some c => c | none => .skip
def laws_szIntSS_5_sv : List Sv := [.one (.arr 55), .one (.int .i64), .one (.int .i64)]
def laws_szIntSS_5_so : List So := []
def laws_szIntSS_5_emb (c : List (List Int)) (x : Int × Int) : EVs T laws_szIntSS_5_sv × EOs T laws_szIntSS_5_so := ((c, x.1, x.2, ()), ())
def laws_szIntSS_5_prj (y : EVs T laws_szIntSS_5_sv × EOs T laws_szIntSS_5_so) : List (List Int) × (Int × Int) := ((y.1.1), (y.1.2.1, y.1.2.2.1))
def laws_szIntSS_5_b (n : Nat) {R : Type} (K : Ex → Sm.St T → Option R) (c : List (List Int)) (x : Int × Int) (J : (Int × Int) → Option R) : Option R :=
  laws_szIntSS_L5 n (fun (y0 : Int) => K (.exit 0) (stOf (T := T) [1] [] [.one (.int .i64)] [] (y0, ()) ())) (fun (y0 : Int) => K .ret (stOf (T := T) [4] [] [.one (.int .i64)] [] (y0, ()) ())) (fun z0 z1 => J (z0, z1)) c x.1 x.2
def laws_szIntSS_5_sp (n : Nat) : LSpec T := mkSpec T ⟨[], [0, 1, 5], []⟩ laws_szIntSS_5_sv laws_szIntSS_5_so (List (List Int)) (Int × Int) laws_szIntSS_5_emb laws_szIntSS_5_prj (laws_szIntSS_5_b n)
noncomputable def laws_szIntSS_5_c : Code := ((loopCodes laws_szIntSS_code)[0]?).getD .skip
def laws_szIntSS_ann : Ann := fun id => bif Nat.beq id 3000005 then some ⟨[], [1], []⟩ else bif Nat.beq id 2000005 then some ⟨[], [4], []⟩ else none
def laws_szIntSS_Ls (n : Nat) : Nat → Option (LSpec T) := fun id => bif Nat.beq id 5 then some (laws_szIntSS_5_sp n) else none
theorem laws_szIntSS_5_le (n : Nat) : LoopEq (T := T) (Phi n 1) (laws_szIntSS_Ls n) laws_szIntSS_ann n laws_szIntSS_5_c (laws_szIntSS_5_sp n) := ⟨mkSpec_dec (fun y => rfl), fun c x => by kernel_rfl, fun K J c x => by kernel_rfl⟩
theorem laws_szIntSS_tie (n : Nat) (a0 : List (List Int)) (left1 : Int) : evF (T := T) (Phi n 1) (laws_szIntSS_Ls n) laws_szIntSS_ann n Try.f98 (sg 98) [vA T 24 a0, vA T 3 left1] laws_szIntSS_dec = laws_szIntSS n a0 left1 := by kernel_rfl
theorem laws_szIntSS_lo (n : Nat) : LoopsOk (T := T) (Phi n 1) (laws_szIntSS_Ls n) laws_szIntSS_ann n laws_szIntSS_code := loopsOk_all (cs := [laws_szIntSS_5_c]) (by kernel_rfl) ⟨⟨_, by kernel_rfl, laws_szIntSS_5_le n⟩, trivial⟩
theorem laws_szIntSS_ok (n : Nat) : EntOk Try.prog (ents n) (laws_szIntSS_ent n) := by
  intro hs ar y hg h
  replace h : laws_szIntSS_D n ar = some y := h
  unfold laws_szIntSS_D at h
  replace h := ocons_some h
  obtain ⟨a0, r0, rfl, h⟩ := h
  replace h := ocons_some h
  obtain ⟨a1, r1, rfl, h⟩ := h
  replace h := onil_some h
  obtain ⟨rfl, h⟩ := h
  obtain ⟨a0, qh0, h⟩ := obind_some h
  obtain ⟨left1, qh1, h⟩ := obind_some h
  rw [argV_eq ok qh0, argV_eq ok qh1]
  exact call_of (phiE_nat _ _) hs ok mixed Try.func98 (c := laws_szIntSS_code) (by kernel_rfl) (laws_szIntSS_lo n) (by kernel_rfl) (by kernel_rfl) (by kernel_rfl) laws_szIntSS_de ((laws_szIntSS_tie n a0 left1).trans h)
noncomputable def laws_szHull_code : Code := match Try.f22.body with | some c => c | none => .skip
def laws_szHull_ann : Ann := fun id => none
def laws_szHull_Ls (n : Nat) : Nat → Option (LSpec T) := fun id => none
theorem laws_szHull_tie (n : Nat) (a0 : SHull) (left1 : Int) : evF (T := T) (Phi n 2) (laws_szHull_Ls n) laws_szHull_ann n Try.f22 (sg 22) [vA T 43 a0, vA T 3 left1] laws_szHull_dec = laws_szHull n a0 left1 := by kernel_rfl
theorem laws_szHull_lo (n : Nat) : LoopsOk (T := T) (Phi n 2) (laws_szHull_Ls n) laws_szHull_ann n laws_szHull_code := loopsOk_all (cs := []) (by kernel_rfl) trivial
theorem laws_szHull_ok (n : Nat) : EntOk Try.prog (ents n) (laws_szHull_ent n) := by
  intro hs ar y hg h
  replace h : laws_szHull_D n ar = some y := h
  unfold laws_szHull_D at h
  replace h := ocons_some h
  obtain ⟨a0, r0, rfl, h⟩ := h
  replace h := ocons_some h
  obtain ⟨a1, r1, rfl, h⟩ := h
  replace h := onil_some h
  obtain ⟨rfl, h⟩ := h
  obtain ⟨a0, qh0, h⟩ := obind_some h
  obtain ⟨left1, qh1, h⟩ := obind_some h
  rw [argV_eq ok qh0, argV_eq ok qh1]
  exact call_of (phiE_nat _ _) hs ok mixed Try.func22 (c := laws_szHull_code) (by kernel_rfl) (laws_szHull_lo n) (by kernel_rfl) (by kernel_rfl) (by kernel_rfl) laws_szHull_de ((laws_szHull_tie n a0 left1).trans h)
noncomputable def laws_szRoomS_code : Code := match Try.f23.body with | some c => c | none => .skip
def laws_szRoomS_ann : Ann := fun id => none
def laws_szRoomS_Ls (n : Nat) : Nat → Option (LSpec T) := fun id => none
theorem laws_szRoomS_tie (n : Nat) (a0 : List SRoom) (left1 : Int) : evF (T := T) (Phi n 3) (laws_szRoomS_Ls n) laws_szRoomS_ann n Try.f23 (sg 23) [vA T 44 a0, vA T 3 left1] laws_szRoomS_dec = laws_szRoomS n a0 left1 := by kernel_rfl
theorem laws_szRoomS_lo (n : Nat) : LoopsOk (T := T) (Phi n 3) (laws_szRoomS_Ls n) laws_szRoomS_ann n laws_szRoomS_code := loopsOk_all (cs := []) (by kernel_rfl) trivial
theorem laws_szRoomS_ok (n : Nat) : EntOk Try.prog (ents n) (laws_szRoomS_ent n) := by
  intro hs ar y hg h
  replace h : laws_szRoomS_D n ar = some y := h
  unfold laws_szRoomS_D at h
  replace h := ocons_some h
  obtain ⟨a0, r0, rfl, h⟩ := h
  replace h := ocons_some h
  obtain ⟨a1, r1, rfl, h⟩ := h
  replace h := onil_some h
  obtain ⟨rfl, h⟩ := h
  obtain ⟨a0, qh0, h⟩ := obind_some h
  obtain ⟨left1, qh1, h⟩ := obind_some h
  rw [argV_eq ok qh0, argV_eq ok qh1]
  exact call_of (phiE_nat _ _) hs ok mixed Try.func23 (c := laws_szRoomS_code) (by kernel_rfl) (laws_szRoomS_lo n) (by kernel_rfl) (by kernel_rfl) (by kernel_rfl) laws_szRoomS_de ((laws_szRoomS_tie n a0 left1).trans h)
noncomputable def laws_toIntS_code : Code := match Try.f112.body with | some c => c | none => .skip
def laws_toIntS_3_sv : List Sv := [.one (.arr 3), .one (.own 3000000 3 false), .one (.int .i64)]
def laws_toIntS_3_so : List So := [.arr 3 false]
def laws_toIntS_3_emb (c : List Int) (x : Int × List Int) : EVs T laws_toIntS_3_sv × EOs T laws_toIntS_3_so := ((c, (), x.1, ()), (x.2, ()))
def laws_toIntS_3_prj (y : EVs T laws_toIntS_3_sv × EOs T laws_toIntS_3_so) : List Int × (Int × List Int) := ((y.1.1), (y.1.2.2.1, y.2.1))
def laws_toIntS_3_b (n : Nat) {R : Type} (K : Ex → Sm.St T → Option R) (c : List Int) (x : Int × List Int) (J : (Int × List Int) → Option R) : Option R :=
  laws_toIntS_L3 n (fun (y0 : List Int) => K (.exit 0) (stOf (T := T) [3] [3000000] [.one (.own 3000000 3 false)] [.arr 3 false] ((), ()) (y0, ()))) (fun z0 z1 => J (z0, z1)) c x.1 x.2
def laws_toIntS_3_sp (n : Nat) : LSpec T := mkSpec T ⟨[((.reg 3), 3000000, 3)], [0, 3, 4], [3000000]⟩ laws_toIntS_3_sv laws_toIntS_3_so (List Int) (Int × List Int) laws_toIntS_3_emb laws_toIntS_3_prj (laws_toIntS_3_b n)
noncomputable def laws_toIntS_3_c : Code := ((loopCodes laws_toIntS_code)[0]?).getD .skip
def laws_toIntS_ann : Ann := fun id => bif Nat.beq id 3000003 then some ⟨[((.reg 3), 3000000, 3)], [3], [3000000]⟩ else none
def laws_toIntS_Ls (n : Nat) : Nat → Option (LSpec T) := fun id => bif Nat.beq id 3 then some (laws_toIntS_3_sp n) else none
theorem laws_toIntS_3_le (n : Nat) : LoopEq (T := T) (Phi n 4) (laws_toIntS_Ls n) laws_toIntS_ann n laws_toIntS_3_c (laws_toIntS_3_sp n) := ⟨mkSpec_dec (fun y => rfl), fun c x => by kernel_rfl, fun K J c x => by kernel_rfl⟩
theorem laws_toIntS_tie (n : Nat) (a0 : List Int) : evF (T := T) (Phi n 4) (laws_toIntS_Ls n) laws_toIntS_ann n Try.f112 (sg 112) [vA T 55 a0] laws_toIntS_dec = laws_toIntS n a0 := by kernel_rfl
theorem laws_toIntS_lo (n : Nat) : LoopsOk (T := T) (Phi n 4) (laws_toIntS_Ls n) laws_toIntS_ann n laws_toIntS_code := loopsOk_all (cs := [laws_toIntS_3_c]) (by kernel_rfl) ⟨⟨_, by kernel_rfl, laws_toIntS_3_le n⟩, trivial⟩
theorem laws_toIntS_ok (n : Nat) : EntOk Try.prog (ents n) (laws_toIntS_ent n) := by
  intro hs ar y hg h
  replace h : laws_toIntS_D n ar = some y := h
  unfold laws_toIntS_D at h
  replace h := ocons_some h
  obtain ⟨a0, r0, rfl, h⟩ := h
  replace h := onil_some h
  obtain ⟨rfl, h⟩ := h
  obtain ⟨a0, qh0, h⟩ := obind_some h
  rw [argV_eq ok qh0]
  exact call_of (phiE_nat _ _) hs ok mixed Try.func112 (c := laws_toIntS_code) (by kernel_rfl) (laws_toIntS_lo n) (by kernel_rfl) (by kernel_rfl) (by kernel_rfl) laws_toIntS_de ((laws_toIntS_tie n a0).trans h)
noncomputable def laws_toIntSS_code : Code := match Try.f101.body with | some c => c | none => .skip
def laws_toIntSS_3_sv : List Sv := [.one (.arr 55), .one (.own 3000000 55 false), .one (.int .i64)]
def laws_toIntSS_3_so : List So := [.arr 55 false]
def laws_toIntSS_3_emb (c : List (List Int)) (x : Int × List (List Int)) : EVs T laws_toIntSS_3_sv × EOs T laws_toIntSS_3_so := ((c, (), x.1, ()), (x.2, ()))
def laws_toIntSS_3_prj (y : EVs T laws_toIntSS_3_sv × EOs T laws_toIntSS_3_so) : List (List Int) × (Int × List (List Int)) := ((y.1.1), (y.1.2.2.1, y.2.1))
def laws_toIntSS_3_b (n : Nat) {R : Type} (K : Ex → Sm.St T → Option R) (c : List (List Int)) (x : Int × List (List Int)) (J : (Int × List (List Int)) → Option R) : Option R :=
  laws_toIntSS_L3 n (fun (y0 : List (List Int)) => K (.exit 0) (stOf (T := T) [3] [3000000] [.one (.own 3000000 55 false)] [.arr 55 false] ((), ()) (y0, ()))) (fun z0 z1 => J (z0, z1)) c x.1 x.2
def laws_toIntSS_3_sp (n : Nat) : LSpec T := mkSpec T ⟨[((.reg 3), 3000000, 55)], [0, 3, 4], [3000000]⟩ laws_toIntSS_3_sv laws_toIntSS_3_so (List (List Int)) (Int × List (List Int)) laws_toIntSS_3_emb laws_toIntSS_3_prj (laws_toIntSS_3_b n)
noncomputable def laws_toIntSS_3_c : Code := ((loopCodes laws_toIntSS_code)[0]?).getD .skip
def laws_toIntSS_ann : Ann := fun id => bif Nat.beq id 3000003 then some ⟨[((.reg 3), 3000000, 55)], [3], [3000000]⟩ else none
def laws_toIntSS_Ls (n : Nat) : Nat → Option (LSpec T) := fun id => bif Nat.beq id 3 then some (laws_toIntSS_3_sp n) else none
theorem laws_toIntSS_3_le (n : Nat) : LoopEq (T := T) (Phi n 5) (laws_toIntSS_Ls n) laws_toIntSS_ann n laws_toIntSS_3_c (laws_toIntSS_3_sp n) := ⟨mkSpec_dec (fun y => rfl), fun c x => by kernel_rfl, fun K J c x => by kernel_rfl⟩
theorem laws_toIntSS_tie (n : Nat) (a0 : List (List Int)) : evF (T := T) (Phi n 5) (laws_toIntSS_Ls n) laws_toIntSS_ann n Try.f101 (sg 101) [vA T 24 a0] laws_toIntSS_dec = laws_toIntSS n a0 := by kernel_rfl
theorem laws_toIntSS_lo (n : Nat) : LoopsOk (T := T) (Phi n 5) (laws_toIntSS_Ls n) laws_toIntSS_ann n laws_toIntSS_code := loopsOk_all (cs := [laws_toIntSS_3_c]) (by kernel_rfl) ⟨⟨_, by kernel_rfl, laws_toIntSS_3_le n⟩, trivial⟩
theorem laws_toIntSS_ok (n : Nat) : EntOk Try.prog (ents n) (laws_toIntSS_ent n) := by
  intro hs ar y hg h
  replace h : laws_toIntSS_D n ar = some y := h
  unfold laws_toIntSS_D at h
  replace h := ocons_some h
  obtain ⟨a0, r0, rfl, h⟩ := h
  replace h := onil_some h
  obtain ⟨rfl, h⟩ := h
  obtain ⟨a0, qh0, h⟩ := obind_some h
  rw [argV_eq ok qh0]
  exact call_of (phiE_nat _ _) hs ok mixed Try.func101 (c := laws_toIntSS_code) (by kernel_rfl) (laws_toIntSS_lo n) (by kernel_rfl) (by kernel_rfl) (by kernel_rfl) laws_toIntSS_de ((laws_toIntSS_tie n a0).trans h)
noncomputable def laws_toHull_code : Code := match Try.f25.body with | some c => c | none => .skip
def laws_toHull_ann : Ann := fun id => none
def laws_toHull_Ls (n : Nat) : Nat → Option (LSpec T) := fun id => none
theorem laws_toHull_tie (n : Nat) (a0 : SHull) : evF (T := T) (Phi n 6) (laws_toHull_Ls n) laws_toHull_ann n Try.f25 (sg 25) [vA T 43 a0] laws_toHull_dec = laws_toHull n a0 := by kernel_rfl
theorem laws_toHull_lo (n : Nat) : LoopsOk (T := T) (Phi n 6) (laws_toHull_Ls n) laws_toHull_ann n laws_toHull_code := loopsOk_all (cs := []) (by kernel_rfl) trivial
theorem laws_toHull_ok (n : Nat) : EntOk Try.prog (ents n) (laws_toHull_ent n) := by
  intro hs ar y hg h
  replace h : laws_toHull_D n ar = some y := h
  unfold laws_toHull_D at h
  replace h := ocons_some h
  obtain ⟨a0, r0, rfl, h⟩ := h
  replace h := onil_some h
  obtain ⟨rfl, h⟩ := h
  obtain ⟨a0, qh0, h⟩ := obind_some h
  rw [argV_eq ok qh0]
  exact call_of (phiE_nat _ _) hs ok mixed Try.func25 (c := laws_toHull_code) (by kernel_rfl) (laws_toHull_lo n) (by kernel_rfl) (by kernel_rfl) (by kernel_rfl) laws_toHull_de ((laws_toHull_tie n a0).trans h)
noncomputable def laws_toRoom_code : Code := match Try.f102.body with | some c => c | none => .skip
def laws_toRoom_ann : Ann := fun id => none
def laws_toRoom_Ls (n : Nat) : Nat → Option (LSpec T) := fun id => none
theorem laws_toRoom_tie (n : Nat) (a0 : SRoom) : evF (T := T) (Phi n 7) (laws_toRoom_Ls n) laws_toRoom_ann n Try.f102 (sg 102) [vA T 169 a0] laws_toRoom_dec = laws_toRoom n a0 := by kernel_rfl
theorem laws_toRoom_lo (n : Nat) : LoopsOk (T := T) (Phi n 7) (laws_toRoom_Ls n) laws_toRoom_ann n laws_toRoom_code := loopsOk_all (cs := []) (by kernel_rfl) trivial
theorem laws_toRoom_ok (n : Nat) : EntOk Try.prog (ents n) (laws_toRoom_ent n) := by
  intro hs ar y hg h
  replace h : laws_toRoom_D n ar = some y := h
  unfold laws_toRoom_D at h
  replace h := ocons_some h
  obtain ⟨a0, r0, rfl, h⟩ := h
  replace h := onil_some h
  obtain ⟨rfl, h⟩ := h
  obtain ⟨a0, qh0, h⟩ := obind_some h
  rw [argV_eq ok qh0]
  exact call_of (phiE_nat _ _) hs ok mixed Try.func102 (c := laws_toRoom_code) (by kernel_rfl) (laws_toRoom_lo n) (by kernel_rfl) (by kernel_rfl) (by kernel_rfl) laws_toRoom_de ((laws_toRoom_tie n a0).trans h)
noncomputable def laws_toRoomS_code : Code := match Try.f26.body with | some c => c | none => .skip
def laws_toRoomS_3_sv : List Sv := [.one (.arr 169), .one (.own 3000000 166 false), .one (.int .i64)]
def laws_toRoomS_3_so : List So := [.arr 166 false]
def laws_toRoomS_3_emb (c : List SRoom) (x : Int × List SRoom) : EVs T laws_toRoomS_3_sv × EOs T laws_toRoomS_3_so := ((c, (), x.1, ()), (x.2, ()))
def laws_toRoomS_3_prj (y : EVs T laws_toRoomS_3_sv × EOs T laws_toRoomS_3_so) : List SRoom × (Int × List SRoom) := ((y.1.1), (y.1.2.2.1, y.2.1))
def laws_toRoomS_3_b (n : Nat) {R : Type} (K : Ex → Sm.St T → Option R) (c : List SRoom) (x : Int × List SRoom) (J : (Int × List SRoom) → Option R) : Option R :=
  laws_toRoomS_L3 n (fun (y0 : List SRoom) => K (.exit 0) (stOf (T := T) [3] [3000000] [.one (.own 3000000 166 false)] [.arr 166 false] ((), ()) (y0, ()))) (fun z0 z1 => J (z0, z1)) c x.1 x.2
def laws_toRoomS_3_sp (n : Nat) : LSpec T := mkSpec T ⟨[((.reg 3), 3000000, 166)], [0, 3, 4], [3000000]⟩ laws_toRoomS_3_sv laws_toRoomS_3_so (List SRoom) (Int × List SRoom) laws_toRoomS_3_emb laws_toRoomS_3_prj (laws_toRoomS_3_b n)
noncomputable def laws_toRoomS_3_c : Code := ((loopCodes laws_toRoomS_code)[0]?).getD .skip
def laws_toRoomS_ann : Ann := fun id => bif Nat.beq id 3000003 then some ⟨[((.reg 3), 3000000, 166)], [3], [3000000]⟩ else none
def laws_toRoomS_Ls (n : Nat) : Nat → Option (LSpec T) := fun id => bif Nat.beq id 3 then some (laws_toRoomS_3_sp n) else none
theorem laws_toRoomS_3_le (n : Nat) : LoopEq (T := T) (Phi n 8) (laws_toRoomS_Ls n) laws_toRoomS_ann n laws_toRoomS_3_c (laws_toRoomS_3_sp n) := ⟨mkSpec_dec (fun y => rfl), fun c x => by kernel_rfl, fun K J c x => by kernel_rfl⟩
theorem laws_toRoomS_tie (n : Nat) (a0 : List SRoom) : evF (T := T) (Phi n 8) (laws_toRoomS_Ls n) laws_toRoomS_ann n Try.f26 (sg 26) [vA T 44 a0] laws_toRoomS_dec = laws_toRoomS n a0 := by kernel_rfl
theorem laws_toRoomS_lo (n : Nat) : LoopsOk (T := T) (Phi n 8) (laws_toRoomS_Ls n) laws_toRoomS_ann n laws_toRoomS_code := loopsOk_all (cs := [laws_toRoomS_3_c]) (by kernel_rfl) ⟨⟨_, by kernel_rfl, laws_toRoomS_3_le n⟩, trivial⟩
theorem laws_toRoomS_ok (n : Nat) : EntOk Try.prog (ents n) (laws_toRoomS_ent n) := by
  intro hs ar y hg h
  replace h : laws_toRoomS_D n ar = some y := h
  unfold laws_toRoomS_D at h
  replace h := ocons_some h
  obtain ⟨a0, r0, rfl, h⟩ := h
  replace h := onil_some h
  obtain ⟨rfl, h⟩ := h
  obtain ⟨a0, qh0, h⟩ := obind_some h
  rw [argV_eq ok qh0]
  exact call_of (phiE_nat _ _) hs ok mixed Try.func26 (c := laws_toRoomS_code) (by kernel_rfl) (laws_toRoomS_lo n) (by kernel_rfl) (by kernel_rfl) (by kernel_rfl) laws_toRoomS_de ((laws_toRoomS_tie n a0).trans h)
noncomputable def spec_l1In_code : Code := match Try.f100.body with | some c => c | none => .skip
def spec_l1In_ann : Ann := fun id => none
def spec_l1In_Ls (n : Nat) : Nat → Option (LSpec T) := fun id => none
theorem spec_l1In_tie (n : Nat) (x0 : Int) (a1 : Int) (b2 : Int) : evF (T := T) (Phi n 9) (spec_l1In_Ls n) spec_l1In_ann n Try.f100 (sg 100) [vA T 3 x0, vA T 3 a1, vA T 3 b2] spec_l1In_dec = spec_l1In n x0 a1 b2 := by kernel_rfl
theorem spec_l1In_lo (n : Nat) : LoopsOk (T := T) (Phi n 9) (spec_l1In_Ls n) spec_l1In_ann n spec_l1In_code := loopsOk_all (cs := []) (by kernel_rfl) trivial
theorem spec_l1In_ok (n : Nat) : EntOk Try.prog (ents n) (spec_l1In_ent n) := by
  intro hs ar y hg h
  replace h : spec_l1In_D n ar = some y := h
  unfold spec_l1In_D at h
  replace h := ocons_some h
  obtain ⟨a0, r0, rfl, h⟩ := h
  replace h := ocons_some h
  obtain ⟨a1, r1, rfl, h⟩ := h
  replace h := ocons_some h
  obtain ⟨a2, r2, rfl, h⟩ := h
  replace h := onil_some h
  obtain ⟨rfl, h⟩ := h
  obtain ⟨x0, qh0, h⟩ := obind_some h
  obtain ⟨a1, qh1, h⟩ := obind_some h
  obtain ⟨b2, qh2, h⟩ := obind_some h
  rw [argV_eq ok qh0, argV_eq ok qh1, argV_eq ok qh2]
  exact call_of (phiE_nat _ _) hs ok mixed Try.func100 (c := spec_l1In_code) (by kernel_rfl) (spec_l1In_lo n) (by kernel_rfl) (by kernel_rfl) (by kernel_rfl) spec_l1In_de ((spec_l1In_tie n x0 a1 b2).trans h)
noncomputable def spec_HullOk_code : Code := match Try.f189.body with | some c => c | none => .skip
def spec_HullOk_4_sv : List Sv := [.one (.ptr 8 0 0), .one (.int .i64)]
def spec_HullOk_4_so : List So := [.var [.int .i64, .int .i64, .arr 55]]
def spec_HullOk_4_emb (c : SHull) (x : Int) : EVs T spec_HullOk_4_sv × EOs T spec_HullOk_4_so := (((), x, ()), ((c.Step, c.Rise, c.Half, ()), ()))
def spec_HullOk_4_prj (y : EVs T spec_HullOk_4_sv × EOs T spec_HullOk_4_so) : SHull × Int := ((((⟨y.2.1.1, y.2.1.2.1, y.2.1.2.2.1⟩ : SHull) : SHull)), (y.1.2.1))
def spec_HullOk_4_b (n : Nat) {R : Type} (K : Ex → Sm.St T → Option R) (c : SHull) (x : Int) (J : Int → Option R) : Option R :=
  spec_HullOk_L4 n (K (.exit 0) (stOf (T := T) [] [] [] [] () ())) (fun (y0 : Bool) => K .ret (stOf (T := T) [2] [] [.one (.bool)] [] (y0, ()) ())) J x c
def spec_HullOk_4_sp (n : Nat) : LSpec T := mkSpec T ⟨[], [1, 3], [8]⟩ spec_HullOk_4_sv spec_HullOk_4_so (SHull) (Int) spec_HullOk_4_emb spec_HullOk_4_prj (spec_HullOk_4_b n)
noncomputable def spec_HullOk_4_c : Code := ((loopCodes spec_HullOk_code)[0]?).getD .skip
def spec_HullOk_9_sv : List Sv := [.one (.ptr 8 0 0), .one (.int .i64), .one (.int .i64)]
def spec_HullOk_9_so : List So := [.var [.int .i64, .int .i64, .arr 55]]
def spec_HullOk_9_emb (c : Int × SHull) (x : Int) : EVs T spec_HullOk_9_sv × EOs T spec_HullOk_9_so := (((), c.1, x, ()), ((c.2.Step, c.2.Rise, c.2.Half, ()), ()))
def spec_HullOk_9_prj (y : EVs T spec_HullOk_9_sv × EOs T spec_HullOk_9_so) : (Int × SHull) × Int := ((y.1.2.1, ((⟨y.2.1.1, y.2.1.2.1, y.2.1.2.2.1⟩ : SHull) : SHull)), (y.1.2.2.1))
def spec_HullOk_9_b (n : Nat) {R : Type} (K : Ex → Sm.St T → Option R) (c : Int × SHull) (x : Int) (J : Int → Option R) : Option R :=
  spec_HullOk_L9 n (K (.exit 2) (stOf (T := T) [1, 3] [8] [.one (.ptr 8 0 0), .one (.int .i64)] [.var [.int .i64, .int .i64, .arr 55]] ((), c.1, ()) ((c.2.Step, c.2.Rise, c.2.Half, ()), ()))) (fun (y0 : Bool) => K .ret (stOf (T := T) [2] [] [.one (.bool)] [] (y0, ()) ())) J c.1 x c.2
def spec_HullOk_9_sp (n : Nat) : LSpec T := mkSpec T ⟨[], [1, 3, 4], [8]⟩ spec_HullOk_9_sv spec_HullOk_9_so (Int × SHull) (Int) spec_HullOk_9_emb spec_HullOk_9_prj (spec_HullOk_9_b n)
noncomputable def spec_HullOk_9_c : Code := ((loopCodes spec_HullOk_code)[1]?).getD .skip
def spec_HullOk_ann : Ann := fun id => bif Nat.beq id 3000004 then some ⟨[], [], []⟩ else bif Nat.beq id 2000004 then some ⟨[], [2], []⟩ else bif Nat.beq id 5000009 then some ⟨[], [1, 3], [8]⟩ else bif Nat.beq id 2000009 then some ⟨[], [2], []⟩ else none
def spec_HullOk_Ls (n : Nat) : Nat → Option (LSpec T) := fun id => bif Nat.beq id 4 then some (spec_HullOk_4_sp n) else bif Nat.beq id 9 then some (spec_HullOk_9_sp n) else none
theorem spec_HullOk_4_le (n : Nat) : LoopEq (T := T) (Phi n 10) (spec_HullOk_Ls n) spec_HullOk_ann n spec_HullOk_4_c (spec_HullOk_4_sp n) := ⟨mkSpec_dec (fun y => rfl), fun c x => by kernel_rfl, fun K J c x => by kernel_rfl⟩
theorem spec_HullOk_9_le (n : Nat) : LoopEq (T := T) (Phi n 10) (spec_HullOk_Ls n) spec_HullOk_ann n spec_HullOk_9_c (spec_HullOk_9_sp n) := ⟨mkSpec_dec (fun y => rfl), fun c x => by kernel_rfl, fun K J c x => by kernel_rfl⟩
theorem spec_HullOk_tie (n : Nat) (h0 : SHull) : evF (T := T) (Phi n 10) (spec_HullOk_Ls n) spec_HullOk_ann n Try.f189 (sg 189) [vA T 26 h0] spec_HullOk_dec = spec_HullOk n h0 := by kernel_rfl
theorem spec_HullOk_lo (n : Nat) : LoopsOk (T := T) (Phi n 10) (spec_HullOk_Ls n) spec_HullOk_ann n spec_HullOk_code := loopsOk_all (cs := [spec_HullOk_4_c, spec_HullOk_9_c]) (by kernel_rfl) ⟨⟨_, by kernel_rfl, spec_HullOk_4_le n⟩, ⟨_, by kernel_rfl, spec_HullOk_9_le n⟩, trivial⟩
theorem spec_HullOk_ok (n : Nat) : EntOk Try.prog (ents n) (spec_HullOk_ent n) := by
  intro hs ar y hg h
  replace h : spec_HullOk_D n ar = some y := h
  unfold spec_HullOk_D at h
  replace h := ocons_some h
  obtain ⟨a0, r0, rfl, h⟩ := h
  replace h := onil_some h
  obtain ⟨rfl, h⟩ := h
  obtain ⟨h0, qh0, h⟩ := obind_some h
  rw [argV_eq ok qh0]
  exact call_of (phiE_nat _ _) hs ok mixed Try.func189 (c := spec_HullOk_code) (by kernel_rfl) (spec_HullOk_lo n) (by kernel_rfl) (by kernel_rfl) (by kernel_rfl) spec_HullOk_de ((spec_HullOk_tie n h0).trans h)
noncomputable def spec_RoomsOk_code : Code := match Try.f99.body with | some c => c | none => .skip
def spec_RoomsOk_4_sv : List Sv := [.one (.arr 166), .one (.ptr 16 0 0), .one (.int .i64)]
def spec_RoomsOk_4_so : List So := [.var [.int .i64, .int .i64, .arr 55]]
def spec_RoomsOk_4_emb (c : List SRoom × SHull) (x : Int) : EVs T spec_RoomsOk_4_sv × EOs T spec_RoomsOk_4_so := ((c.1, (), x, ()), ((c.2.Step, c.2.Rise, c.2.Half, ()), ()))
def spec_RoomsOk_4_prj (y : EVs T spec_RoomsOk_4_sv × EOs T spec_RoomsOk_4_so) : (List SRoom × SHull) × Int := ((y.1.1, ((⟨y.2.1.1, y.2.1.2.1, y.2.1.2.2.1⟩ : SHull) : SHull)), (y.1.2.2.1))
def spec_RoomsOk_4_b (n : Nat) {R : Type} (K : Ex → Sm.St T → Option R) (c : List SRoom × SHull) (x : Int) (J : Int → Option R) : Option R :=
  spec_RoomsOk_L4 n (K (.exit 0) (stOf (T := T) [] [] [] [] () ())) (fun (y0 : Bool) => K .ret (stOf (T := T) [4] [] [.one (.bool)] [] (y0, ()) ())) J c.1 x c.2
def spec_RoomsOk_4_sp (n : Nat) : LSpec T := mkSpec T ⟨[], [1, 2, 5], [16]⟩ spec_RoomsOk_4_sv spec_RoomsOk_4_so (List SRoom × SHull) (Int) spec_RoomsOk_4_emb spec_RoomsOk_4_prj (spec_RoomsOk_4_b n)
noncomputable def spec_RoomsOk_4_c : Code := ((loopCodes spec_RoomsOk_code)[0]?).getD .skip
def spec_RoomsOk_10_sv : List Sv := [.one (.arr 166), .one (.ptr 16 0 0), .one (.int .i64), .one (.ptr 48 0 0), .one (.int .i64)]
def spec_RoomsOk_10_so : List So := [.var [.int .i64, .int .i64, .arr 55], .var [.int .i64, .int .i64, .int .i64]]
def spec_RoomsOk_10_emb (c : List SRoom × Int × SHull × SRoom) (x : Int) : EVs T spec_RoomsOk_10_sv × EOs T spec_RoomsOk_10_so := ((c.1, (), c.2.1, (), x, ()), ((c.2.2.1.Step, c.2.2.1.Rise, c.2.2.1.Half, ()), (c.2.2.2.First, c.2.2.2.Last, c.2.2.2.Perm, ()), ()))
def spec_RoomsOk_10_prj (y : EVs T spec_RoomsOk_10_sv × EOs T spec_RoomsOk_10_so) : (List SRoom × Int × SHull × SRoom) × Int := ((y.1.1, y.1.2.2.1, ((⟨y.2.1.1, y.2.1.2.1, y.2.1.2.2.1⟩ : SHull) : SHull), ((⟨y.2.2.1.1, y.2.2.1.2.1, y.2.2.1.2.2.1⟩ : SRoom) : SRoom)), (y.1.2.2.2.2.1))
def spec_RoomsOk_10_b (n : Nat) {R : Type} (K : Ex → Sm.St T → Option R) (c : List SRoom × Int × SHull × SRoom) (x : Int) (J : Int → Option R) : Option R :=
  spec_RoomsOk_L10 n (K (.exit 2) (stOf (T := T) [1, 2, 5] [16] [.one (.arr 166), .one (.ptr 16 0 0), .one (.int .i64)] [.var [.int .i64, .int .i64, .arr 55]] (c.1, (), c.2.1, ()) ((c.2.2.1.Step, c.2.2.1.Rise, c.2.2.1.Half, ()), ()))) (fun (y0 : Bool) => K .ret (stOf (T := T) [4] [] [.one (.bool)] [] (y0, ()) ())) J c.1 c.2.1 x c.2.2.1 c.2.2.2
def spec_RoomsOk_10_sp (n : Nat) : LSpec T := mkSpec T ⟨[], [1, 2, 5, 6, 7], [16, 48]⟩ spec_RoomsOk_10_sv spec_RoomsOk_10_so (List SRoom × Int × SHull × SRoom) (Int) spec_RoomsOk_10_emb spec_RoomsOk_10_prj (spec_RoomsOk_10_b n)
noncomputable def spec_RoomsOk_10_c : Code := ((loopCodes spec_RoomsOk_code)[1]?).getD .skip
def spec_RoomsOk_ann : Ann := fun id => bif Nat.beq id 3000004 then some ⟨[], [], []⟩ else bif Nat.beq id 2000004 then some ⟨[], [4], []⟩ else bif Nat.beq id 5000010 then some ⟨[], [1, 2, 5], [16]⟩ else bif Nat.beq id 2000010 then some ⟨[], [4], []⟩ else none
def spec_RoomsOk_Ls (n : Nat) : Nat → Option (LSpec T) := fun id => bif Nat.beq id 4 then some (spec_RoomsOk_4_sp n) else bif Nat.beq id 10 then some (spec_RoomsOk_10_sp n) else none
theorem spec_RoomsOk_4_le (n : Nat) : LoopEq (T := T) (Phi n 11) (spec_RoomsOk_Ls n) spec_RoomsOk_ann n spec_RoomsOk_4_c (spec_RoomsOk_4_sp n) := ⟨mkSpec_dec (fun y => rfl), fun c x => by kernel_rfl, fun K J c x => by kernel_rfl⟩
theorem spec_RoomsOk_10_le (n : Nat) : LoopEq (T := T) (Phi n 11) (spec_RoomsOk_Ls n) spec_RoomsOk_ann n spec_RoomsOk_10_c (spec_RoomsOk_10_sp n) := ⟨mkSpec_dec (fun y => rfl), fun c x => by kernel_rfl, fun K J c x => by kernel_rfl⟩
theorem spec_RoomsOk_tie (n : Nat) (h0 : SHull) (rooms1 : List SRoom) : evF (T := T) (Phi n 11) (spec_RoomsOk_Ls n) spec_RoomsOk_ann n Try.f99 (sg 99) [vA T 26 h0, vA T 49 rooms1] spec_RoomsOk_dec = spec_RoomsOk n h0 rooms1 := by kernel_rfl
theorem spec_RoomsOk_lo (n : Nat) : LoopsOk (T := T) (Phi n 11) (spec_RoomsOk_Ls n) spec_RoomsOk_ann n spec_RoomsOk_code := loopsOk_all (cs := [spec_RoomsOk_4_c, spec_RoomsOk_10_c]) (by kernel_rfl) ⟨⟨_, by kernel_rfl, spec_RoomsOk_4_le n⟩, ⟨_, by kernel_rfl, spec_RoomsOk_10_le n⟩, trivial⟩
theorem spec_RoomsOk_ok (n : Nat) : EntOk Try.prog (ents n) (spec_RoomsOk_ent n) := by
  intro hs ar y hg h
  replace h : spec_RoomsOk_D n ar = some y := h
  unfold spec_RoomsOk_D at h
  replace h := ocons_some h
  obtain ⟨a0, r0, rfl, h⟩ := h
  replace h := ocons_some h
  obtain ⟨a1, r1, rfl, h⟩ := h
  replace h := onil_some h
  obtain ⟨rfl, h⟩ := h
  obtain ⟨h0, qh0, h⟩ := obind_some h
  obtain ⟨rooms1, qh1, h⟩ := obind_some h
  rw [argV_eq ok qh0, argV_eq ok qh1]
  exact call_of (phiE_nat _ _) hs ok mixed Try.func99 (c := spec_RoomsOk_code) (by kernel_rfl) (spec_RoomsOk_lo n) (by kernel_rfl) (by kernel_rfl) (by kernel_rfl) spec_RoomsOk_de ((spec_RoomsOk_tie n h0 rooms1).trans h)
noncomputable def spec_Flood_code : Code := match Try.f24.body with | some c => c | none => .skip
def spec_Flood_5_sv : List Sv := [.one (.arr 166), .one (.ptr 16 0 0), .one (.ptr 32 0 0), .one (.ptr 40 0 0), .one (.int .i64)]
def spec_Flood_5_so : List So := [.var [.int .i64, .int .i64, .arr 55], .var [.int .i64, .int .i64, .own 3000000 55 false], .arr 55 false, .var [.int .i64, .int .i64, .own 3000001 55 false], .arr 55 false]
def spec_Flood_5_emb (c : List SRoom × SHull × Int × Int × List (List Int) × Int × Int) (x : Int × List (List Int)) : EVs T spec_Flood_5_sv × EOs T spec_Flood_5_so := ((c.1, (), (), (), x.1, ()), ((c.2.1.Step, c.2.1.Rise, c.2.1.Half, ()), (c.2.2.1, c.2.2.2.1, (), ()), c.2.2.2.2.1, (c.2.2.2.2.2.1, c.2.2.2.2.2.2, (), ()), x.2, ()))
def spec_Flood_5_prj (y : EVs T spec_Flood_5_sv × EOs T spec_Flood_5_so) : (List SRoom × SHull × Int × Int × List (List Int) × Int × Int) × (Int × List (List Int)) := ((y.1.1, ((⟨y.2.1.1, y.2.1.2.1, y.2.1.2.2.1⟩ : SHull) : SHull), y.2.2.1.1, y.2.2.1.2.1, y.2.2.2.1, y.2.2.2.2.1.1, y.2.2.2.2.1.2.1), (y.1.2.2.2.2.1, y.2.2.2.2.2.1))
def spec_Flood_5_b (n : Nat) {R : Type} (K : Ex → Sm.St T → Option R) (c : List SRoom × SHull × Int × Int × List (List Int) × Int × Int) (x : Int × List (List Int)) (J : (Int × List (List Int)) → Option R) : Option R :=
  spec_Flood_L5 n (fun (y5 : List (List Int)) => K (.exit 0) (stOf (T := T) [4, 5] [32, 3000000, 40, 3000001] [.one (.ptr 32 0 0), .one (.ptr 40 0 0)] [.var [.int .i64, .int .i64, .own 3000000 55 false], .arr 55 false, .var [.int .i64, .int .i64, .own 3000001 55 false], .arr 55 false] ((), (), ()) ((c.2.2.1, c.2.2.2.1, (), ()), c.2.2.2.2.1, (c.2.2.2.2.2.1, c.2.2.2.2.2.2, (), ()), y5, ()))) (fun z0 z1 => J (z0, z1)) c.1 x.1 c.2.1 c.2.2.1 c.2.2.2.1 c.2.2.2.2.1 c.2.2.2.2.2.1 c.2.2.2.2.2.2 x.2
def spec_Flood_5_sp (n : Nat) : LSpec T := mkSpec T ⟨[((.cell 32 2), 3000000, 55), ((.cell 40 2), 3000001, 55)], [1, 2, 4, 5, 6], [16, 32, 3000000, 40, 3000001]⟩ spec_Flood_5_sv spec_Flood_5_so (List SRoom × SHull × Int × Int × List (List Int) × Int × Int) (Int × List (List Int)) spec_Flood_5_emb spec_Flood_5_prj (spec_Flood_5_b n)
noncomputable def spec_Flood_5_c : Code := ((loopCodes spec_Flood_code)[0]?).getD .skip
def spec_Flood_9_sv : List Sv := [.one (.arr 166), .one (.ptr 16 0 0), .one (.ptr 32 0 0), .one (.ptr 40 0 0), .one (.int .i64), .one (.int .i64), .one (.int .i64)]
def spec_Flood_9_so : List So := [.var [.int .i64, .int .i64, .arr 55], .var [.int .i64, .int .i64, .own 3000000 55 false], .arr 55 false, .var [.int .i64, .int .i64, .own 3000001 55 false], .arr 55 false]
def spec_Flood_9_emb (c : List SRoom × Int × SHull × Int × Int × List (List Int) × Int × Int × List (List Int)) (x : Int × Int) : EVs T spec_Flood_9_sv × EOs T spec_Flood_9_so := ((c.1, (), (), (), c.2.1, x.1, x.2, ()), ((c.2.2.1.Step, c.2.2.1.Rise, c.2.2.1.Half, ()), (c.2.2.2.1, c.2.2.2.2.1, (), ()), c.2.2.2.2.2.1, (c.2.2.2.2.2.2.1, c.2.2.2.2.2.2.2.1, (), ()), c.2.2.2.2.2.2.2.2, ()))
def spec_Flood_9_prj (y : EVs T spec_Flood_9_sv × EOs T spec_Flood_9_so) : (List SRoom × Int × SHull × Int × Int × List (List Int) × Int × Int × List (List Int)) × (Int × Int) := ((y.1.1, y.1.2.2.2.2.1, ((⟨y.2.1.1, y.2.1.2.1, y.2.1.2.2.1⟩ : SHull) : SHull), y.2.2.1.1, y.2.2.1.2.1, y.2.2.2.1, y.2.2.2.2.1.1, y.2.2.2.2.1.2.1, y.2.2.2.2.2.1), (y.1.2.2.2.2.2.1, y.1.2.2.2.2.2.2.1))
def spec_Flood_9_b (n : Nat) {R : Type} (K : Ex → Sm.St T → Option R) (c : List SRoom × Int × SHull × Int × Int × List (List Int) × Int × Int × List (List Int)) (x : Int × Int) (J : (Int × Int) → Option R) : Option R :=
  spec_Flood_L9 n (fun (y2 : Int) => K (.exit 2) (stOf (T := T) [1, 2, 4, 5, 6, 7] [16, 32, 3000000, 40, 3000001] [.one (.arr 166), .one (.ptr 16 0 0), .one (.ptr 32 0 0), .one (.ptr 40 0 0), .one (.int .i64), .one (.int .i64)] [.var [.int .i64, .int .i64, .arr 55], .var [.int .i64, .int .i64, .own 3000000 55 false], .arr 55 false, .var [.int .i64, .int .i64, .own 3000001 55 false], .arr 55 false] (c.1, (), (), (), c.2.1, y2, ()) ((c.2.2.1.Step, c.2.2.1.Rise, c.2.2.1.Half, ()), (c.2.2.2.1, c.2.2.2.2.1, (), ()), c.2.2.2.2.2.1, (c.2.2.2.2.2.2.1, c.2.2.2.2.2.2.2.1, (), ()), c.2.2.2.2.2.2.2.2, ()))) (fun z0 z1 => J (z0, z1)) c.1 c.2.1 x.1 x.2 c.2.2.1 c.2.2.2.1 c.2.2.2.2.1 c.2.2.2.2.2.1 c.2.2.2.2.2.2.1 c.2.2.2.2.2.2.2.1 c.2.2.2.2.2.2.2.2
def spec_Flood_9_sp (n : Nat) : LSpec T := mkSpec T ⟨[((.cell 32 2), 3000000, 55), ((.cell 40 2), 3000001, 55)], [1, 2, 4, 5, 6, 7, 8], [16, 32, 3000000, 40, 3000001]⟩ spec_Flood_9_sv spec_Flood_9_so (List SRoom × Int × SHull × Int × Int × List (List Int) × Int × Int × List (List Int)) (Int × Int) spec_Flood_9_emb spec_Flood_9_prj (spec_Flood_9_b n)
noncomputable def spec_Flood_9_c : Code := ((loopCodes spec_Flood_code)[1]?).getD .skip
def spec_Flood_15_sv : List Sv := [.one (.arr 166), .one (.ptr 16 0 0), .one (.ptr 32 0 0), .one (.ptr 40 0 0), .one (.int .i64), .one (.int .i64), .one (.own 3000002 3 false), .one (.int .i64)]
def spec_Flood_15_so : List So := [.var [.int .i64, .int .i64, .arr 55], .var [.int .i64, .int .i64, .own 3000000 55 false], .arr 55 false, .var [.int .i64, .int .i64, .own 3000001 55 false], .arr 55 false, .arr 3 false]
def spec_Flood_15_emb (c : List SRoom × Int × Int × SHull × Int × Int × List (List Int) × Int × Int × List (List Int)) (x : Int × List Int) : EVs T spec_Flood_15_sv × EOs T spec_Flood_15_so := ((c.1, (), (), (), c.2.1, c.2.2.1, (), x.1, ()), ((c.2.2.2.1.Step, c.2.2.2.1.Rise, c.2.2.2.1.Half, ()), (c.2.2.2.2.1, c.2.2.2.2.2.1, (), ()), c.2.2.2.2.2.2.1, (c.2.2.2.2.2.2.2.1, c.2.2.2.2.2.2.2.2.1, (), ()), c.2.2.2.2.2.2.2.2.2, x.2, ()))
def spec_Flood_15_prj (y : EVs T spec_Flood_15_sv × EOs T spec_Flood_15_so) : (List SRoom × Int × Int × SHull × Int × Int × List (List Int) × Int × Int × List (List Int)) × (Int × List Int) := ((y.1.1, y.1.2.2.2.2.1, y.1.2.2.2.2.2.1, ((⟨y.2.1.1, y.2.1.2.1, y.2.1.2.2.1⟩ : SHull) : SHull), y.2.2.1.1, y.2.2.1.2.1, y.2.2.2.1, y.2.2.2.2.1.1, y.2.2.2.2.1.2.1, y.2.2.2.2.2.1), (y.1.2.2.2.2.2.2.2.1, y.2.2.2.2.2.2.1))
def spec_Flood_15_b (n : Nat) {R : Type} (K : Ex → Sm.St T → Option R) (c : List SRoom × Int × Int × SHull × Int × Int × List (List Int) × Int × Int × List (List Int)) (x : Int × List Int) (J : (Int × List Int) → Option R) : Option R :=
  spec_Flood_L15 n (fun (y9 : List Int) => K (.exit 4) (stOf (T := T) [1, 2, 4, 5, 6, 9] [16, 32, 3000000, 40, 3000001, 3000002] [.one (.arr 166), .one (.ptr 16 0 0), .one (.ptr 32 0 0), .one (.ptr 40 0 0), .one (.int .i64), .one (.own 3000002 3 false)] [.var [.int .i64, .int .i64, .arr 55], .var [.int .i64, .int .i64, .own 3000000 55 false], .arr 55 false, .var [.int .i64, .int .i64, .own 3000001 55 false], .arr 55 false, .arr 3 false] (c.1, (), (), (), c.2.1, (), ()) ((c.2.2.2.1.Step, c.2.2.2.1.Rise, c.2.2.2.1.Half, ()), (c.2.2.2.2.1, c.2.2.2.2.2.1, (), ()), c.2.2.2.2.2.2.1, (c.2.2.2.2.2.2.2.1, c.2.2.2.2.2.2.2.2.1, (), ()), c.2.2.2.2.2.2.2.2.2, y9, ()))) (fun z0 z1 => J (z0, z1)) c.1 c.2.1 c.2.2.1 x.1 c.2.2.2.1 c.2.2.2.2.1 c.2.2.2.2.2.1 c.2.2.2.2.2.2.1 c.2.2.2.2.2.2.2.1 c.2.2.2.2.2.2.2.2.1 c.2.2.2.2.2.2.2.2.2 x.2
def spec_Flood_15_sp (n : Nat) : LSpec T := mkSpec T ⟨[((.reg 9), 3000002, 3), ((.cell 32 2), 3000000, 55), ((.cell 40 2), 3000001, 55)], [1, 2, 4, 5, 6, 7, 9, 10], [16, 32, 3000000, 40, 3000001, 3000002]⟩ spec_Flood_15_sv spec_Flood_15_so (List SRoom × Int × Int × SHull × Int × Int × List (List Int) × Int × Int × List (List Int)) (Int × List Int) spec_Flood_15_emb spec_Flood_15_prj (spec_Flood_15_b n)
noncomputable def spec_Flood_15_c : Code := ((loopCodes spec_Flood_code)[2]?).getD .skip
def spec_Flood_ann : Ann := fun id => bif Nat.beq id 3000005 then some ⟨[((.cell 32 2), 3000000, 55), ((.cell 40 2), 3000001, 55)], [4, 5], [32, 3000000, 40, 3000001]⟩ else bif Nat.beq id 5000009 then some ⟨[((.cell 32 2), 3000000, 55), ((.cell 40 2), 3000001, 55)], [1, 2, 4, 5, 6, 7], [16, 32, 3000000, 40, 3000001]⟩ else bif Nat.beq id 7000015 then some ⟨[((.reg 9), 3000002, 3), ((.cell 32 2), 3000000, 55), ((.cell 40 2), 3000001, 55)], [1, 2, 4, 5, 6, 9], [16, 32, 3000000, 40, 3000001, 3000002]⟩ else none
def spec_Flood_Ls (n : Nat) : Nat → Option (LSpec T) := fun id => bif Nat.beq id 5 then some (spec_Flood_5_sp n) else bif Nat.beq id 9 then some (spec_Flood_9_sp n) else bif Nat.beq id 15 then some (spec_Flood_15_sp n) else none
theorem spec_Flood_5_le (n : Nat) : LoopEq (T := T) (Phi n 12) (spec_Flood_Ls n) spec_Flood_ann n spec_Flood_5_c (spec_Flood_5_sp n) := ⟨mkSpec_dec (fun y => rfl), fun c x => by kernel_rfl, fun K J c x => by kernel_rfl⟩
theorem spec_Flood_9_le (n : Nat) : LoopEq (T := T) (Phi n 12) (spec_Flood_Ls n) spec_Flood_ann n spec_Flood_9_c (spec_Flood_9_sp n) := ⟨mkSpec_dec (fun y => rfl), fun c x => by kernel_rfl, fun K J c x => by kernel_rfl⟩
theorem spec_Flood_15_le (n : Nat) : LoopEq (T := T) (Phi n 12) (spec_Flood_Ls n) spec_Flood_ann n spec_Flood_15_c (spec_Flood_15_sp n) := ⟨mkSpec_dec (fun y => rfl), fun c x => by kernel_rfl, fun K J c x => by kernel_rfl⟩
theorem spec_Flood_tie (n : Nat) (h0 : SHull) (rooms1 : List SRoom) : evF (T := T) (Phi n 12) (spec_Flood_Ls n) spec_Flood_ann n Try.f24 (sg 24) [vA T 26 h0, vA T 49 rooms1] spec_Flood_dec = spec_Flood n h0 rooms1 := by kernel_rfl
theorem spec_Flood_lo (n : Nat) : LoopsOk (T := T) (Phi n 12) (spec_Flood_Ls n) spec_Flood_ann n spec_Flood_code := loopsOk_all (cs := [spec_Flood_5_c, spec_Flood_9_c, spec_Flood_15_c]) (by kernel_rfl) ⟨⟨_, by kernel_rfl, spec_Flood_5_le n⟩, ⟨_, by kernel_rfl, spec_Flood_9_le n⟩, ⟨_, by kernel_rfl, spec_Flood_15_le n⟩, trivial⟩
theorem spec_Flood_ok (n : Nat) : EntOk Try.prog (ents n) (spec_Flood_ent n) := by
  intro hs ar y hg h
  replace h : spec_Flood_D n ar = some y := h
  unfold spec_Flood_D at h
  replace h := ocons_some h
  obtain ⟨a0, r0, rfl, h⟩ := h
  replace h := ocons_some h
  obtain ⟨a1, r1, rfl, h⟩ := h
  replace h := onil_some h
  obtain ⟨rfl, h⟩ := h
  obtain ⟨h0, qh0, h⟩ := obind_some h
  obtain ⟨rooms1, qh1, h⟩ := obind_some h
  rw [argV_eq ok qh0, argV_eq ok qh1]
  exact call_of (phiE_nat _ _) hs ok mixed Try.func24 (c := spec_Flood_code) (by kernel_rfl) (spec_Flood_lo n) (by kernel_rfl) (by kernel_rfl) (by kernel_rfl) spec_Flood_de ((spec_Flood_tie n h0 rooms1).trans h)
noncomputable def impl_in_code : Code := match Try.f119.body with | some c => c | none => .skip
def impl_in_ann : Ann := fun id => none
def impl_in_Ls (n : Nat) : Nat → Option (LSpec T) := fun id => none
theorem impl_in_tie (n : Nat) (n0 : Int) (least1 : Int) (most2 : Int) : evF (T := T) (Phi n 13) (impl_in_Ls n) impl_in_ann n Try.f119 (sg 119) [vA T 3 n0, vA T 3 least1, vA T 3 most2] impl_in_dec = impl_in n n0 least1 most2 := by kernel_rfl
theorem impl_in_lo (n : Nat) : LoopsOk (T := T) (Phi n 13) (impl_in_Ls n) impl_in_ann n impl_in_code := loopsOk_all (cs := []) (by kernel_rfl) trivial
theorem impl_in_ok (n : Nat) : EntOk Try.prog (ents n) (impl_in_ent n) := by
  intro hs ar y hg h
  replace h : impl_in_D n ar = some y := h
  unfold impl_in_D at h
  replace h := ocons_some h
  obtain ⟨a0, r0, rfl, h⟩ := h
  replace h := ocons_some h
  obtain ⟨a1, r1, rfl, h⟩ := h
  replace h := ocons_some h
  obtain ⟨a2, r2, rfl, h⟩ := h
  replace h := onil_some h
  obtain ⟨rfl, h⟩ := h
  obtain ⟨n0, qh0, h⟩ := obind_some h
  obtain ⟨least1, qh1, h⟩ := obind_some h
  obtain ⟨most2, qh2, h⟩ := obind_some h
  rw [argV_eq ok qh0, argV_eq ok qh1, argV_eq ok qh2]
  exact call_of (phiE_nat _ _) hs ok mixed Try.func119 (c := impl_in_code) (by kernel_rfl) (impl_in_lo n) (by kernel_rfl) (by kernel_rfl) (by kernel_rfl) impl_in_de ((impl_in_tie n n0 least1 most2).trans h)
noncomputable def impl_all_1_code : Code := match Try.f196.body with | some c => c | none => .skip
def impl_all_1_ann : Ann := fun id => none
def impl_all_1_Ls (n : Nat) : Nat → Option (LSpec T) := fun id => none
theorem impl_all_1_tie (n : Nat) (n0 : Int) (a1 : Int) (a2 : Int) : evF (T := T) (Phi n 14) (impl_all_1_Ls n) impl_all_1_ann n Try.f196 (sg 196) [vA T 3 n0, .ptr 3 a1, .ptr 3 a2] impl_all_1_dec = impl_all_1 n n0 a1 a2 := by kernel_rfl
theorem impl_all_1_lo (n : Nat) : LoopsOk (T := T) (Phi n 14) (impl_all_1_Ls n) impl_all_1_ann n impl_all_1_code := loopsOk_all (cs := []) (by kernel_rfl) trivial
theorem impl_all_1_ok (n : Nat) : EntOk Try.prog (ents n) (impl_all_1_ent n) := by
  intro hs ar y hg h
  replace h : impl_all_1_D n ar = some y := h
  unfold impl_all_1_D at h
  replace h := ocons_some h
  obtain ⟨a0, r0, rfl, h⟩ := h
  replace h := ocons_some h
  obtain ⟨a1, r1, rfl, h⟩ := h
  replace h := ocons_some h
  obtain ⟨a2, r2, rfl, h⟩ := h
  replace h := onil_some h
  obtain ⟨rfl, h⟩ := h
  obtain ⟨n0, qh0, h⟩ := obind_some h
  obtain ⟨a1, qh1, h⟩ := obind_some h
  obtain ⟨a2, qh2, h⟩ := obind_some h
  rw [argV_eq ok qh0, argP_eq qh1, argP_eq qh2]
  exact call_of (phiE_nat _ _) hs ok mixed Try.func196 (c := impl_all_1_code) (by kernel_rfl) (impl_all_1_lo n) (by kernel_rfl) (by kernel_rfl) (by kernel_rfl) impl_all_1_de ((impl_all_1_tie n n0 a1 a2).trans h)
noncomputable def slices_IndexFunc_int_int__impl_all_1_code : Code := match Try.f222.body with | some c => c | none => .skip
def slices_IndexFunc_int_int__impl_all_1_2_sv : List Sv := [.one (.arr 3), .one (.fnr 196 [3, 3]), .one (.int .i64), .one (.int .i64)]
def slices_IndexFunc_int_int__impl_all_1_2_so : List So := []
def slices_IndexFunc_int_int__impl_all_1_2_emb (c : List Int × Int × Int × Int) (x : Int) : EVs T slices_IndexFunc_int_int__impl_all_1_2_sv × EOs T slices_IndexFunc_int_int__impl_all_1_2_so := ((c.1, (c.2.1, c.2.2.1, ()), c.2.2.2, x, ()), ())
def slices_IndexFunc_int_int__impl_all_1_2_prj (y : EVs T slices_IndexFunc_int_int__impl_all_1_2_sv × EOs T slices_IndexFunc_int_int__impl_all_1_2_so) : (List Int × Int × Int × Int) × Int := ((y.1.1, y.1.2.1.1, y.1.2.1.2.1, y.1.2.2.1), (y.1.2.2.2.1))
def slices_IndexFunc_int_int__impl_all_1_2_b (n : Nat) {R : Type} (K : Ex → Sm.St T → Option R) (c : List Int × Int × Int × Int) (x : Int) (J : Int → Option R) : Option R :=
  slices_IndexFunc_int_int__impl_all_1_L2 n (K (.exit 0) (stOf (T := T) [] [] [] [] () ())) (fun (y0 : Int) => K .ret (stOf (T := T) [4] [] [.one (.int .i64)] [] (y0, ()) ())) J c.1 c.2.1 c.2.2.1 c.2.2.2 x
def slices_IndexFunc_int_int__impl_all_1_2_sp (n : Nat) : LSpec T := mkSpec T ⟨[], [0, 1, 7, 8], []⟩ slices_IndexFunc_int_int__impl_all_1_2_sv slices_IndexFunc_int_int__impl_all_1_2_so (List Int × Int × Int × Int) (Int) slices_IndexFunc_int_int__impl_all_1_2_emb slices_IndexFunc_int_int__impl_all_1_2_prj (slices_IndexFunc_int_int__impl_all_1_2_b n)
noncomputable def slices_IndexFunc_int_int__impl_all_1_2_c : Code := ((loopCodes slices_IndexFunc_int_int__impl_all_1_code)[0]?).getD .skip
def slices_IndexFunc_int_int__impl_all_1_ann : Ann := fun id => bif Nat.beq id 3000002 then some ⟨[], [], []⟩ else bif Nat.beq id 2000002 then some ⟨[], [4], []⟩ else none
def slices_IndexFunc_int_int__impl_all_1_Ls (n : Nat) : Nat → Option (LSpec T) := fun id => bif Nat.beq id 2 then some (slices_IndexFunc_int_int__impl_all_1_2_sp n) else none
theorem slices_IndexFunc_int_int__impl_all_1_2_le (n : Nat) : LoopEq (T := T) (Phi n 15) (slices_IndexFunc_int_int__impl_all_1_Ls n) slices_IndexFunc_int_int__impl_all_1_ann n slices_IndexFunc_int_int__impl_all_1_2_c (slices_IndexFunc_int_int__impl_all_1_2_sp n) := ⟨mkSpec_dec (fun y => rfl), fun c x => by kernel_rfl, fun K J c x => by kernel_rfl⟩
theorem slices_IndexFunc_int_int__impl_all_1_tie (n : Nat) (s0 : List Int) (f1c0 : Int) (f1c1 : Int) : evF (T := T) (Phi n 15) (slices_IndexFunc_int_int__impl_all_1_Ls n) slices_IndexFunc_int_int__impl_all_1_ann n Try.f222 (sg 222) [vA T 55 s0, .fn 196 [.ptr 3 f1c0, .ptr 3 f1c1]] slices_IndexFunc_int_int__impl_all_1_dec = slices_IndexFunc_int_int__impl_all_1 n s0 f1c0 f1c1 := by kernel_rfl
theorem slices_IndexFunc_int_int__impl_all_1_lo (n : Nat) : LoopsOk (T := T) (Phi n 15) (slices_IndexFunc_int_int__impl_all_1_Ls n) slices_IndexFunc_int_int__impl_all_1_ann n slices_IndexFunc_int_int__impl_all_1_code := loopsOk_all (cs := [slices_IndexFunc_int_int__impl_all_1_2_c]) (by kernel_rfl) ⟨⟨_, by kernel_rfl, slices_IndexFunc_int_int__impl_all_1_2_le n⟩, trivial⟩
theorem slices_IndexFunc_int_int__impl_all_1_ok (n : Nat) : EntOk Try.prog (ents n) (slices_IndexFunc_int_int__impl_all_1_ent n) := by
  intro hs ar y hg h
  replace h : slices_IndexFunc_int_int__impl_all_1_D n ar = some y := h
  unfold slices_IndexFunc_int_int__impl_all_1_D at h
  split at h
  · obtain ⟨s0, qh0, h⟩ := obind_some h
    obtain ⟨f1c0, qh1, h⟩ := obind_some h
    obtain ⟨f1c1, qh2, h⟩ := obind_some h
    rw [argV_eq ok qh0, argP_eq qh1, argP_eq qh2] at hg ⊢
    cases (show [_] = [196] from natsEq_eq hg)
    exact call_of (phiE_nat _ _) hs ok mixed Try.func222 (c := slices_IndexFunc_int_int__impl_all_1_code) (by kernel_rfl) (slices_IndexFunc_int_int__impl_all_1_lo n) (by kernel_rfl) (by kernel_rfl) (by kernel_rfl) slices_IndexFunc_int_int__impl_all_1_de ((slices_IndexFunc_int_int__impl_all_1_tie n s0 f1c0 f1c1).trans h)
  · cases h
noncomputable def slices_ContainsFunc_int_int__impl_all_1_code : Code := match Try.f158.body with | some c => c | none => .skip
def slices_ContainsFunc_int_int__impl_all_1_ann : Ann := fun id => none
def slices_ContainsFunc_int_int__impl_all_1_Ls (n : Nat) : Nat → Option (LSpec T) := fun id => none
theorem slices_ContainsFunc_int_int__impl_all_1_tie (n : Nat) (s0 : List Int) (f1c0 : Int) (f1c1 : Int) : evF (T := T) (Phi n 16) (slices_ContainsFunc_int_int__impl_all_1_Ls n) slices_ContainsFunc_int_int__impl_all_1_ann n Try.f158 (sg 158) [vA T 55 s0, .fn 196 [.ptr 3 f1c0, .ptr 3 f1c1]] slices_ContainsFunc_int_int__impl_all_1_dec = slices_ContainsFunc_int_int__impl_all_1 n s0 f1c0 f1c1 := by kernel_rfl
theorem slices_ContainsFunc_int_int__impl_all_1_lo (n : Nat) : LoopsOk (T := T) (Phi n 16) (slices_ContainsFunc_int_int__impl_all_1_Ls n) slices_ContainsFunc_int_int__impl_all_1_ann n slices_ContainsFunc_int_int__impl_all_1_code := loopsOk_all (cs := []) (by kernel_rfl) trivial
theorem slices_ContainsFunc_int_int__impl_all_1_ok (n : Nat) : EntOk Try.prog (ents n) (slices_ContainsFunc_int_int__impl_all_1_ent n) := by
  intro hs ar y hg h
  replace h : slices_ContainsFunc_int_int__impl_all_1_D n ar = some y := h
  unfold slices_ContainsFunc_int_int__impl_all_1_D at h
  split at h
  · obtain ⟨s0, qh0, h⟩ := obind_some h
    obtain ⟨f1c0, qh1, h⟩ := obind_some h
    obtain ⟨f1c1, qh2, h⟩ := obind_some h
    rw [argV_eq ok qh0, argP_eq qh1, argP_eq qh2] at hg ⊢
    cases (show [_] = [196] from natsEq_eq hg)
    exact call_of (phiE_nat _ _) hs ok mixed Try.func158 (c := slices_ContainsFunc_int_int__impl_all_1_code) (by kernel_rfl) (slices_ContainsFunc_int_int__impl_all_1_lo n) (by kernel_rfl) (by kernel_rfl) (by kernel_rfl) slices_ContainsFunc_int_int__impl_all_1_de ((slices_ContainsFunc_int_int__impl_all_1_tie n s0 f1c0 f1c1).trans h)
  · cases h
noncomputable def impl_all_code : Code := match Try.f120.body with | some c => c | none => .skip
def impl_all_ann : Ann := fun id => none
def impl_all_Ls (n : Nat) : Nat → Option (LSpec T) := fun id => none
theorem impl_all_tie (n : Nat) (l0 : List Int) (least1 : Int) (most2 : Int) : evF (T := T) (Phi n 17) (impl_all_Ls n) impl_all_ann n Try.f120 (sg 120) [vA T 55 l0, vA T 3 least1, vA T 3 most2] impl_all_dec = impl_all n l0 least1 most2 := by kernel_rfl
theorem impl_all_lo (n : Nat) : LoopsOk (T := T) (Phi n 17) (impl_all_Ls n) impl_all_ann n impl_all_code := loopsOk_all (cs := []) (by kernel_rfl) trivial
theorem impl_all_ok (n : Nat) : EntOk Try.prog (ents n) (impl_all_ent n) := by
  intro hs ar y hg h
  replace h : impl_all_D n ar = some y := h
  unfold impl_all_D at h
  replace h := ocons_some h
  obtain ⟨a0, r0, rfl, h⟩ := h
  replace h := ocons_some h
  obtain ⟨a1, r1, rfl, h⟩ := h
  replace h := ocons_some h
  obtain ⟨a2, r2, rfl, h⟩ := h
  replace h := onil_some h
  obtain ⟨rfl, h⟩ := h
  obtain ⟨l0, qh0, h⟩ := obind_some h
  obtain ⟨least1, qh1, h⟩ := obind_some h
  obtain ⟨most2, qh2, h⟩ := obind_some h
  rw [argV_eq ok qh0, argV_eq ok qh1, argV_eq ok qh2]
  exact call_of (phiE_nat _ _) hs ok mixed Try.func120 (c := impl_all_code) (by kernel_rfl) (impl_all_lo n) (by kernel_rfl) (by kernel_rfl) (by kernel_rfl) impl_all_de ((impl_all_tie n l0 least1 most2).trans h)
noncomputable def impl_HullOk_code : Code := match Try.f190.body with | some c => c | none => .skip
def impl_HullOk_4_sv : List Sv := [.one (.ptr 8 0 0), .one (.arr 55), .one (.int .i64), .one (.int .i64)]
def impl_HullOk_4_so : List So := [.var [.int .i64, .int .i64, .arr 55]]
def impl_HullOk_4_emb (c : List (List Int) × Int × SHull) (x : Int) : EVs T impl_HullOk_4_sv × EOs T impl_HullOk_4_so := (((), c.1, c.2.1, x, ()), ((c.2.2.Step, c.2.2.Rise, c.2.2.Half, ()), ()))
def impl_HullOk_4_prj (y : EVs T impl_HullOk_4_sv × EOs T impl_HullOk_4_so) : (List (List Int) × Int × SHull) × Int := ((y.1.2.1, y.1.2.2.1, ((⟨y.2.1.1, y.2.1.2.1, y.2.1.2.2.1⟩ : SHull) : SHull)), (y.1.2.2.2.1))
def impl_HullOk_4_b (n : Nat) {R : Type} (K : Ex → Sm.St T → Option R) (c : List (List Int) × Int × SHull) (x : Int) (J : Int → Option R) : Option R :=
  impl_HullOk_L4 n (K (.exit 0) (stOf (T := T) [] [] [] [] () ())) (fun (y0 : Bool) => K .ret (stOf (T := T) [2] [] [.one (.bool)] [] (y0, ()) ())) J c.1 c.2.1 x c.2.2
def impl_HullOk_4_sp (n : Nat) : LSpec T := mkSpec T ⟨[], [1, 32, 33, 34], [8]⟩ impl_HullOk_4_sv impl_HullOk_4_so (List (List Int) × Int × SHull) (Int) impl_HullOk_4_emb impl_HullOk_4_prj (impl_HullOk_4_b n)
noncomputable def impl_HullOk_4_c : Code := ((loopCodes impl_HullOk_code)[0]?).getD .skip
def impl_HullOk_ann : Ann := fun id => bif Nat.beq id 3000004 then some ⟨[], [], []⟩ else bif Nat.beq id 2000004 then some ⟨[], [2], []⟩ else none
def impl_HullOk_Ls (n : Nat) : Nat → Option (LSpec T) := fun id => bif Nat.beq id 4 then some (impl_HullOk_4_sp n) else none
theorem impl_HullOk_4_le (n : Nat) : LoopEq (T := T) (Phi n 18) (impl_HullOk_Ls n) impl_HullOk_ann n impl_HullOk_4_c (impl_HullOk_4_sp n) := ⟨mkSpec_dec (fun y => rfl), fun c x => by kernel_rfl, fun K J c x => by kernel_rfl⟩
theorem impl_HullOk_tie (n : Nat) (h0 : SHull) : evF (T := T) (Phi n 18) (impl_HullOk_Ls n) impl_HullOk_ann n Try.f190 (sg 190) [vA T 26 h0] impl_HullOk_dec = impl_HullOk n h0 := by kernel_rfl
theorem impl_HullOk_lo (n : Nat) : LoopsOk (T := T) (Phi n 18) (impl_HullOk_Ls n) impl_HullOk_ann n impl_HullOk_code := loopsOk_all (cs := [impl_HullOk_4_c]) (by kernel_rfl) ⟨⟨_, by kernel_rfl, impl_HullOk_4_le n⟩, trivial⟩
theorem impl_HullOk_ok (n : Nat) : EntOk Try.prog (ents n) (impl_HullOk_ent n) := by
  intro hs ar y hg h
  replace h : impl_HullOk_D n ar = some y := h
  unfold impl_HullOk_D at h
  replace h := ocons_some h
  obtain ⟨a0, r0, rfl, h⟩ := h
  replace h := onil_some h
  obtain ⟨rfl, h⟩ := h
  obtain ⟨h0, qh0, h⟩ := obind_some h
  rw [argV_eq ok qh0]
  exact call_of (phiE_nat _ _) hs ok mixed Try.func190 (c := impl_HullOk_code) (by kernel_rfl) (impl_HullOk_lo n) (by kernel_rfl) (by kernel_rfl) (by kernel_rfl) impl_HullOk_de ((impl_HullOk_tie n h0).trans h)
noncomputable def impl_RoomsOk_code : Code := match Try.f103.body with | some c => c | none => .skip
def impl_RoomsOk_5_sv : List Sv := [.one (.ptr 16 0 0), .one (.map 136), .one (.arr 166), .one (.int .i64), .one (.int .i64)]
def impl_RoomsOk_5_so : List So := [.var [.int .i64, .int .i64, .arr 55], .map 3 4]
def impl_RoomsOk_5_emb (c : List SRoom × Int × SHull) (x : Int × (List (Int × Bool))) : EVs T impl_RoomsOk_5_sv × EOs T impl_RoomsOk_5_so := (((), (), c.1, c.2.1, x.1, ()), ((c.2.2.Step, c.2.2.Rise, c.2.2.Half, ()), x.2, ()))
def impl_RoomsOk_5_prj (y : EVs T impl_RoomsOk_5_sv × EOs T impl_RoomsOk_5_so) : (List SRoom × Int × SHull) × (Int × (List (Int × Bool))) := ((y.1.2.2.1, y.1.2.2.2.1, ((⟨y.2.1.1, y.2.1.2.1, y.2.1.2.2.1⟩ : SHull) : SHull)), (y.1.2.2.2.2.1, y.2.2.1))
def impl_RoomsOk_5_b (n : Nat) {R : Type} (K : Ex → Sm.St T → Option R) (c : List SRoom × Int × SHull) (x : Int × (List (Int × Bool))) (J : (Int × (List (Int × Bool))) → Option R) : Option R :=
  impl_RoomsOk_L5 n (K (.exit 0) (stOf (T := T) [] [] [] [] () ())) (fun (y0 : Bool) => K .ret (stOf (T := T) [4] [] [.one (.bool)] [] (y0, ()) ())) (fun z0 z1 => J (z0, z1)) c.1 c.2.1 x.1 c.2.2 x.2
def impl_RoomsOk_5_sp (n : Nat) : LSpec T := mkSpec T ⟨[], [2, 5, 18, 19, 20], [16, 136]⟩ impl_RoomsOk_5_sv impl_RoomsOk_5_so (List SRoom × Int × SHull) (Int × (List (Int × Bool))) impl_RoomsOk_5_emb impl_RoomsOk_5_prj (impl_RoomsOk_5_b n)
noncomputable def impl_RoomsOk_5_c : Code := ((loopCodes impl_RoomsOk_code)[0]?).getD .skip
def impl_RoomsOk_10_sv : List Sv := [.one (.ptr 16 0 0), .one (.map 136), .one (.ptr 56 0 0), .one (.int .i64), .one (.arr 166), .one (.int .i64), .one (.int .i64)]
def impl_RoomsOk_10_so : List So := [.var [.int .i64, .int .i64, .arr 55], .map 3 4, .var [.int .i64, .int .i64, .int .i64]]
def impl_RoomsOk_10_emb (c : List SRoom × Int × Int × SHull × SRoom) (x : Int × (List (Int × Bool))) : EVs T impl_RoomsOk_10_sv × EOs T impl_RoomsOk_10_so := (((), (), (), x.1, c.1, c.2.1, c.2.2.1, ()), ((c.2.2.2.1.Step, c.2.2.2.1.Rise, c.2.2.2.1.Half, ()), x.2, (c.2.2.2.2.First, c.2.2.2.2.Last, c.2.2.2.2.Perm, ()), ()))
def impl_RoomsOk_10_prj (y : EVs T impl_RoomsOk_10_sv × EOs T impl_RoomsOk_10_so) : (List SRoom × Int × Int × SHull × SRoom) × (Int × (List (Int × Bool))) := ((y.1.2.2.2.2.1, y.1.2.2.2.2.2.1, y.1.2.2.2.2.2.2.1, ((⟨y.2.1.1, y.2.1.2.1, y.2.1.2.2.1⟩ : SHull) : SHull), ((⟨y.2.2.2.1.1, y.2.2.2.1.2.1, y.2.2.2.1.2.2.1⟩ : SRoom) : SRoom)), (y.1.2.2.2.1, y.2.2.1))
def impl_RoomsOk_10_b (n : Nat) {R : Type} (K : Ex → Sm.St T → Option R) (c : List SRoom × Int × Int × SHull × SRoom) (x : Int × (List (Int × Bool))) (J : (Int × (List (Int × Bool))) → Option R) : Option R :=
  impl_RoomsOk_L10 n (fun (y4 : List (Int × Bool)) => K (.exit 2) (stOf (T := T) [2, 5, 18, 19, 20] [16, 136] [.one (.ptr 16 0 0), .one (.map 136), .one (.arr 166), .one (.int .i64), .one (.int .i64)] [.var [.int .i64, .int .i64, .arr 55], .map 3 4] ((), (), c.1, c.2.1, c.2.2.1, ()) ((c.2.2.2.1.Step, c.2.2.2.1.Rise, c.2.2.2.1.Half, ()), y4, ()))) (fun (y0 : Bool) => K .ret (stOf (T := T) [4] [] [.one (.bool)] [] (y0, ()) ())) (fun z0 z1 => J (z0, z1)) x.1 c.1 c.2.1 c.2.2.1 c.2.2.2.1 x.2 c.2.2.2.2
def impl_RoomsOk_10_sp (n : Nat) : LSpec T := mkSpec T ⟨[], [2, 5, 7, 8, 18, 19, 20], [16, 136, 56]⟩ impl_RoomsOk_10_sv impl_RoomsOk_10_so (List SRoom × Int × Int × SHull × SRoom) (Int × (List (Int × Bool))) impl_RoomsOk_10_emb impl_RoomsOk_10_prj (impl_RoomsOk_10_b n)
noncomputable def impl_RoomsOk_10_c : Code := ((loopCodes impl_RoomsOk_code)[1]?).getD .skip
def impl_RoomsOk_ann : Ann := fun id => bif Nat.beq id 3000005 then some ⟨[], [], []⟩ else bif Nat.beq id 2000005 then some ⟨[], [4], []⟩ else bif Nat.beq id 5000010 then some ⟨[], [2, 5, 18, 19, 20], [16, 136]⟩ else bif Nat.beq id 2000010 then some ⟨[], [4], []⟩ else none
def impl_RoomsOk_Ls (n : Nat) : Nat → Option (LSpec T) := fun id => bif Nat.beq id 5 then some (impl_RoomsOk_5_sp n) else bif Nat.beq id 10 then some (impl_RoomsOk_10_sp n) else none
theorem impl_RoomsOk_5_le (n : Nat) : LoopEq (T := T) (Phi n 19) (impl_RoomsOk_Ls n) impl_RoomsOk_ann n impl_RoomsOk_5_c (impl_RoomsOk_5_sp n) := ⟨mkSpec_dec (fun y => rfl), fun c x => by kernel_rfl, fun K J c x => by kernel_rfl⟩
theorem impl_RoomsOk_10_le (n : Nat) : LoopEq (T := T) (Phi n 19) (impl_RoomsOk_Ls n) impl_RoomsOk_ann n impl_RoomsOk_10_c (impl_RoomsOk_10_sp n) := ⟨mkSpec_dec (fun y => rfl), fun c x => by kernel_rfl, fun K J c x => by kernel_rfl⟩
theorem impl_RoomsOk_tie (n : Nat) (h0 : SHull) (rooms1 : List SRoom) : evF (T := T) (Phi n 19) (impl_RoomsOk_Ls n) impl_RoomsOk_ann n Try.f103 (sg 103) [vA T 26 h0, vA T 49 rooms1] impl_RoomsOk_dec = impl_RoomsOk n h0 rooms1 := by kernel_rfl
theorem impl_RoomsOk_lo (n : Nat) : LoopsOk (T := T) (Phi n 19) (impl_RoomsOk_Ls n) impl_RoomsOk_ann n impl_RoomsOk_code := loopsOk_all (cs := [impl_RoomsOk_5_c, impl_RoomsOk_10_c]) (by kernel_rfl) ⟨⟨_, by kernel_rfl, impl_RoomsOk_5_le n⟩, ⟨_, by kernel_rfl, impl_RoomsOk_10_le n⟩, trivial⟩
theorem impl_RoomsOk_ok (n : Nat) : EntOk Try.prog (ents n) (impl_RoomsOk_ent n) := by
  intro hs ar y hg h
  replace h : impl_RoomsOk_D n ar = some y := h
  unfold impl_RoomsOk_D at h
  replace h := ocons_some h
  obtain ⟨a0, r0, rfl, h⟩ := h
  replace h := ocons_some h
  obtain ⟨a1, r1, rfl, h⟩ := h
  replace h := onil_some h
  obtain ⟨rfl, h⟩ := h
  obtain ⟨h0, qh0, h⟩ := obind_some h
  obtain ⟨rooms1, qh1, h⟩ := obind_some h
  rw [argV_eq ok qh0, argV_eq ok qh1]
  exact call_of (phiE_nat _ _) hs ok mixed Try.func103 (c := impl_RoomsOk_code) (by kernel_rfl) (impl_RoomsOk_lo n) (by kernel_rfl) (by kernel_rfl) (by kernel_rfl) impl_RoomsOk_de ((impl_RoomsOk_tie n h0 rooms1).trans h)
noncomputable def impl_own_int_code : Code := match Try.f104.body with | some c => c | none => .skip
def impl_own_int_ann : Ann := fun id => none
def impl_own_int_Ls (n : Nat) : Nat → Option (LSpec T) := fun id => none
theorem impl_own_int_tie (n : Nat) (l0 : List Int) : evF (T := T) (Phi n 20) (impl_own_int_Ls n) impl_own_int_ann n Try.f104 (sg 104) [vA T 55 l0] impl_own_int_dec = impl_own_int n l0 := by kernel_rfl
theorem impl_own_int_lo (n : Nat) : LoopsOk (T := T) (Phi n 20) (impl_own_int_Ls n) impl_own_int_ann n impl_own_int_code := loopsOk_all (cs := []) (by kernel_rfl) trivial
theorem impl_own_int_ok (n : Nat) : EntOk Try.prog (ents n) (impl_own_int_ent n) := by
  intro hs ar y hg h
  replace h : impl_own_int_D n ar = some y := h
  unfold impl_own_int_D at h
  replace h := ocons_some h
  obtain ⟨a0, r0, rfl, h⟩ := h
  replace h := onil_some h
  obtain ⟨rfl, h⟩ := h
  obtain ⟨l0, qh0, h⟩ := obind_some h
  rw [argV_eq ok qh0]
  exact call_of (phiE_nat _ _) hs ok mixed Try.func104 (c := impl_own_int_code) (by kernel_rfl) (impl_own_int_lo n) (by kernel_rfl) (by kernel_rfl) (by kernel_rfl) impl_own_int_de ((impl_own_int_tie n l0).trans h)
noncomputable def impl_own_int_f105_code : Code := match Try.f105.body with | some c => c | none => .skip
def impl_own_int_f105_ann : Ann := fun id => none
def impl_own_int_f105_Ls (n : Nat) : Nat → Option (LSpec T) := fun id => none
theorem impl_own_int_f105_tie (n : Nat) (l0 : List (List Int)) : evF (T := T) (Phi n 21) (impl_own_int_f105_Ls n) impl_own_int_f105_ann n Try.f105 (sg 105) [vA T 24 l0] impl_own_int_f105_dec = impl_own_int_f105 n l0 := by kernel_rfl
theorem impl_own_int_f105_lo (n : Nat) : LoopsOk (T := T) (Phi n 21) (impl_own_int_f105_Ls n) impl_own_int_f105_ann n impl_own_int_f105_code := loopsOk_all (cs := []) (by kernel_rfl) trivial
theorem impl_own_int_f105_ok (n : Nat) : EntOk Try.prog (ents n) (impl_own_int_f105_ent n) := by
  intro hs ar y hg h
  replace h : impl_own_int_f105_D n ar = some y := h
  unfold impl_own_int_f105_D at h
  replace h := ocons_some h
  obtain ⟨a0, r0, rfl, h⟩ := h
  replace h := onil_some h
  obtain ⟨rfl, h⟩ := h
  obtain ⟨l0, qh0, h⟩ := obind_some h
  rw [argV_eq ok qh0]
  exact call_of (phiE_nat _ _) hs ok mixed Try.func105 (c := impl_own_int_f105_code) (by kernel_rfl) (impl_own_int_f105_lo n) (by kernel_rfl) (by kernel_rfl) (by kernel_rfl) impl_own_int_f105_de ((impl_own_int_f105_tie n l0).trans h)
noncomputable def impl_Flood_code : Code := match Try.f27.body with | some c => c | none => .skip
def impl_Flood_5_sv : List Sv := [.one (.arr 166), .one (.ptr 32 0 0), .one (.ptr 40 0 0), .one (.arr 55), .one (.int .i64), .one (.int .i64)]
def impl_Flood_5_so : List So := [.var [.int .i64, .int .i64, .own 3000000 55 false], .arr 55 false, .var [.int .i64, .int .i64, .own 3000001 55 false], .arr 55 false]
def impl_Flood_5_emb (c : List SRoom × List (List Int) × Int × Int × Int × List (List Int) × Int × Int) (x : Int × List (List Int)) : EVs T impl_Flood_5_sv × EOs T impl_Flood_5_so := ((c.1, (), (), c.2.1, c.2.2.1, x.1, ()), ((c.2.2.2.1, c.2.2.2.2.1, (), ()), c.2.2.2.2.2.1, (c.2.2.2.2.2.2.1, c.2.2.2.2.2.2.2, (), ()), x.2, ()))
def impl_Flood_5_prj (y : EVs T impl_Flood_5_sv × EOs T impl_Flood_5_so) : (List SRoom × List (List Int) × Int × Int × Int × List (List Int) × Int × Int) × (Int × List (List Int)) := ((y.1.1, y.1.2.2.2.1, y.1.2.2.2.2.1, y.2.1.1, y.2.1.2.1, y.2.2.1, y.2.2.2.1.1, y.2.2.2.1.2.1), (y.1.2.2.2.2.2.1, y.2.2.2.2.1))
def impl_Flood_5_b (n : Nat) {R : Type} (K : Ex → Sm.St T → Option R) (c : List SRoom × List (List Int) × Int × Int × Int × List (List Int) × Int × Int) (x : Int × List (List Int)) (J : (Int × List (List Int)) → Option R) : Option R :=
  impl_Flood_L5 n (fun (y6 : List (List Int)) => K (.exit 0) (stOf (T := T) [1, 4, 5] [32, 3000000, 40, 3000001] [.one (.arr 166), .one (.ptr 32 0 0), .one (.ptr 40 0 0)] [.var [.int .i64, .int .i64, .own 3000000 55 false], .arr 55 false, .var [.int .i64, .int .i64, .own 3000001 55 false], .arr 55 false] (c.1, (), (), ()) ((c.2.2.2.1, c.2.2.2.2.1, (), ()), c.2.2.2.2.2.1, (c.2.2.2.2.2.2.1, c.2.2.2.2.2.2.2, (), ()), y6, ()))) (fun z0 z1 => J (z0, z1)) c.1 c.2.1 c.2.2.1 x.1 c.2.2.2.1 c.2.2.2.2.1 c.2.2.2.2.2.1 c.2.2.2.2.2.2.1 c.2.2.2.2.2.2.2 x.2
def impl_Flood_5_sp (n : Nat) : LSpec T := mkSpec T ⟨[((.cell 32 2), 3000000, 55), ((.cell 40 2), 3000001, 55)], [1, 4, 5, 24, 25, 26], [32, 3000000, 40, 3000001]⟩ impl_Flood_5_sv impl_Flood_5_so (List SRoom × List (List Int) × Int × Int × Int × List (List Int) × Int × Int) (Int × List (List Int)) impl_Flood_5_emb impl_Flood_5_prj (impl_Flood_5_b n)
noncomputable def impl_Flood_5_c : Code := ((loopCodes impl_Flood_code)[0]?).getD .skip
def impl_Flood_11_sv : List Sv := [.one (.ptr 32 0 0), .one (.ptr 40 0 0), .one (.arr 166), .one (.int .i64), .one (.int .i64)]
def impl_Flood_11_so : List So := [.var [.int .i64, .int .i64, .own 3000000 55 false], .arr 55 false, .var [.int .i64, .int .i64, .own 3000001 55 false], .arr 55 false]
def impl_Flood_11_emb (c : List SRoom × Int × Int × Int × List (List Int) × Int × Int) (x : Int × List (List Int)) : EVs T impl_Flood_11_sv × EOs T impl_Flood_11_so := (((), (), c.1, c.2.1, x.1, ()), ((c.2.2.1, c.2.2.2.1, (), ()), c.2.2.2.2.1, (c.2.2.2.2.2.1, c.2.2.2.2.2.2, (), ()), x.2, ()))
def impl_Flood_11_prj (y : EVs T impl_Flood_11_sv × EOs T impl_Flood_11_so) : (List SRoom × Int × Int × Int × List (List Int) × Int × Int) × (Int × List (List Int)) := ((y.1.2.2.1, y.1.2.2.2.1, y.2.1.1, y.2.1.2.1, y.2.2.1, y.2.2.2.1.1, y.2.2.2.1.2.1), (y.1.2.2.2.2.1, y.2.2.2.2.1))
def impl_Flood_11_b (n : Nat) {R : Type} (K : Ex → Sm.St T → Option R) (c : List SRoom × Int × Int × Int × List (List Int) × Int × Int) (x : Int × List (List Int)) (J : (Int × List (List Int)) → Option R) : Option R :=
  impl_Flood_L11 n (fun (y5 : List (List Int)) => K (.exit 2) (stOf (T := T) [4, 5] [32, 3000000, 40, 3000001] [.one (.ptr 32 0 0), .one (.ptr 40 0 0)] [.var [.int .i64, .int .i64, .own 3000000 55 false], .arr 55 false, .var [.int .i64, .int .i64, .own 3000001 55 false], .arr 55 false] ((), (), ()) ((c.2.2.1, c.2.2.2.1, (), ()), c.2.2.2.2.1, (c.2.2.2.2.2.1, c.2.2.2.2.2.2, (), ()), y5, ()))) (fun z0 z1 => J (z0, z1)) c.1 c.2.1 x.1 c.2.2.1 c.2.2.2.1 c.2.2.2.2.1 c.2.2.2.2.2.1 c.2.2.2.2.2.2 x.2
def impl_Flood_11_sp (n : Nat) : LSpec T := mkSpec T ⟨[((.cell 32 2), 3000000, 55), ((.cell 40 2), 3000001, 55)], [4, 5, 42, 43, 44], [32, 3000000, 40, 3000001]⟩ impl_Flood_11_sv impl_Flood_11_so (List SRoom × Int × Int × Int × List (List Int) × Int × Int) (Int × List (List Int)) impl_Flood_11_emb impl_Flood_11_prj (impl_Flood_11_b n)
noncomputable def impl_Flood_11_c : Code := ((loopCodes impl_Flood_code)[1]?).getD .skip
def impl_Flood_14_sv : List Sv := [.one (.ptr 32 0 0), .one (.ptr 40 0 0), .one (.ptr 72 0 0), .one (.int .i64), .one (.arr 166), .one (.int .i64), .one (.int .i64)]
def impl_Flood_14_so : List So := [.var [.int .i64, .int .i64, .own 3000000 55 false], .arr 55 false, .var [.int .i64, .int .i64, .own 3000001 55 false], .arr 55 false, .var [.int .i64, .int .i64, .int .i64]]
def impl_Flood_14_emb (c : List SRoom × Int × Int × Int × Int × List (List Int) × Int × Int × SRoom) (x : Int × List (List Int)) : EVs T impl_Flood_14_sv × EOs T impl_Flood_14_so := (((), (), (), x.1, c.1, c.2.1, c.2.2.1, ()), ((c.2.2.2.1, c.2.2.2.2.1, (), ()), c.2.2.2.2.2.1, (c.2.2.2.2.2.2.1, c.2.2.2.2.2.2.2.1, (), ()), x.2, (c.2.2.2.2.2.2.2.2.First, c.2.2.2.2.2.2.2.2.Last, c.2.2.2.2.2.2.2.2.Perm, ()), ()))
def impl_Flood_14_prj (y : EVs T impl_Flood_14_sv × EOs T impl_Flood_14_so) : (List SRoom × Int × Int × Int × Int × List (List Int) × Int × Int × SRoom) × (Int × List (List Int)) := ((y.1.2.2.2.2.1, y.1.2.2.2.2.2.1, y.1.2.2.2.2.2.2.1, y.2.1.1, y.2.1.2.1, y.2.2.1, y.2.2.2.1.1, y.2.2.2.1.2.1, ((⟨y.2.2.2.2.2.1.1, y.2.2.2.2.2.1.2.1, y.2.2.2.2.2.1.2.2.1⟩ : SRoom) : SRoom)), (y.1.2.2.2.1, y.2.2.2.2.1))
def impl_Flood_14_b (n : Nat) {R : Type} (K : Ex → Sm.St T → Option R) (c : List SRoom × Int × Int × Int × Int × List (List Int) × Int × Int × SRoom) (x : Int × List (List Int)) (J : (Int × List (List Int)) → Option R) : Option R :=
  impl_Flood_L14 n (fun (y8 : List (List Int)) => K (.exit 4) (stOf (T := T) [4, 5, 42, 43, 44] [32, 3000000, 40, 3000001] [.one (.ptr 32 0 0), .one (.ptr 40 0 0), .one (.arr 166), .one (.int .i64), .one (.int .i64)] [.var [.int .i64, .int .i64, .own 3000000 55 false], .arr 55 false, .var [.int .i64, .int .i64, .own 3000001 55 false], .arr 55 false] ((), (), c.1, c.2.1, c.2.2.1, ()) ((c.2.2.2.1, c.2.2.2.2.1, (), ()), c.2.2.2.2.2.1, (c.2.2.2.2.2.2.1, c.2.2.2.2.2.2.2.1, (), ()), y8, ()))) (fun z0 z1 => J (z0, z1)) x.1 c.1 c.2.1 c.2.2.1 c.2.2.2.1 c.2.2.2.2.1 c.2.2.2.2.2.1 c.2.2.2.2.2.2.1 c.2.2.2.2.2.2.2.1 x.2 c.2.2.2.2.2.2.2.2
def impl_Flood_14_sp (n : Nat) : LSpec T := mkSpec T ⟨[((.cell 32 2), 3000000, 55), ((.cell 40 2), 3000001, 55)], [4, 5, 9, 10, 42, 43, 44], [32, 3000000, 40, 3000001, 72]⟩ impl_Flood_14_sv impl_Flood_14_so (List SRoom × Int × Int × Int × Int × List (List Int) × Int × Int × SRoom) (Int × List (List Int)) impl_Flood_14_emb impl_Flood_14_prj (impl_Flood_14_b n)
noncomputable def impl_Flood_14_c : Code := ((loopCodes impl_Flood_code)[2]?).getD .skip
def impl_Flood_17_sv : List Sv := [.one (.ptr 32 0 0), .one (.ptr 40 0 0), .one (.ptr 72 0 0), .one (.int .i64), .one (.arr 166), .one (.int .i64), .one (.int .i64), .one (.ownN 3000001 0 3 false), .one (.int .i64), .one (.int .i64)]
def impl_Flood_17_so : List So := [.var [.int .i64, .int .i64, .own 3000000 55 false], .arr 55 false, .var [.int .i64, .int .i64, .own 3000001 55 false], .arr 55 false, .var [.int .i64, .int .i64, .int .i64]]
def impl_Flood_17_emb (c : Int × List SRoom × Int × Int × Nat × Int × Int × Int × List (List Int) × Int × Int × SRoom) (x : Int × List (List Int)) : EVs T impl_Flood_17_sv × EOs T impl_Flood_17_so := (((), (), (), c.1, c.2.1, c.2.2.1, c.2.2.2.1, c.2.2.2.2.1, c.2.2.2.2.2.1, x.1, ()), ((c.2.2.2.2.2.2.1, c.2.2.2.2.2.2.2.1, (), ()), c.2.2.2.2.2.2.2.2.1, (c.2.2.2.2.2.2.2.2.2.1, c.2.2.2.2.2.2.2.2.2.2.1, (), ()), x.2, (c.2.2.2.2.2.2.2.2.2.2.2.First, c.2.2.2.2.2.2.2.2.2.2.2.Last, c.2.2.2.2.2.2.2.2.2.2.2.Perm, ()), ()))
def impl_Flood_17_prj (y : EVs T impl_Flood_17_sv × EOs T impl_Flood_17_so) : (Int × List SRoom × Int × Int × Nat × Int × Int × Int × List (List Int) × Int × Int × SRoom) × (Int × List (List Int)) := ((y.1.2.2.2.1, y.1.2.2.2.2.1, y.1.2.2.2.2.2.1, y.1.2.2.2.2.2.2.1, y.1.2.2.2.2.2.2.2.1, y.1.2.2.2.2.2.2.2.2.1, y.2.1.1, y.2.1.2.1, y.2.2.1, y.2.2.2.1.1, y.2.2.2.1.2.1, ((⟨y.2.2.2.2.2.1.1, y.2.2.2.2.2.1.2.1, y.2.2.2.2.2.1.2.2.1⟩ : SRoom) : SRoom)), (y.1.2.2.2.2.2.2.2.2.2.1, y.2.2.2.2.1))
def impl_Flood_17_b (n : Nat) {R : Type} (K : Ex → Sm.St T → Option R) (c : Int × List SRoom × Int × Int × Nat × Int × Int × Int × List (List Int) × Int × Int × SRoom) (x : Int × List (List Int)) (J : (Int × List (List Int)) → Option R) : Option R :=
  impl_Flood_L17 n (fun (y9 : List (List Int)) => K (.exit 6) (stOf (T := T) [4, 5, 9, 10, 42, 43, 44] [32, 3000000, 40, 3000001, 72] [.one (.ptr 32 0 0), .one (.ptr 40 0 0), .one (.ptr 72 0 0), .one (.int .i64), .one (.arr 166), .one (.int .i64), .one (.int .i64)] [.var [.int .i64, .int .i64, .own 3000000 55 false], .arr 55 false, .var [.int .i64, .int .i64, .own 3000001 55 false], .arr 55 false, .var [.int .i64, .int .i64, .int .i64]] ((), (), (), c.1, c.2.1, c.2.2.1, c.2.2.2.1, ()) ((c.2.2.2.2.2.2.1, c.2.2.2.2.2.2.2.1, (), ()), c.2.2.2.2.2.2.2.2.1, (c.2.2.2.2.2.2.2.2.2.1, c.2.2.2.2.2.2.2.2.2.2.1, (), ()), y9, (c.2.2.2.2.2.2.2.2.2.2.2.First, c.2.2.2.2.2.2.2.2.2.2.2.Last, c.2.2.2.2.2.2.2.2.2.2.2.Perm, ()), ()))) (fun z0 z1 => J (z0, z1)) c.1 c.2.1 c.2.2.1 c.2.2.2.1 c.2.2.2.2.1 c.2.2.2.2.2.1 x.1 c.2.2.2.2.2.2.1 c.2.2.2.2.2.2.2.1 c.2.2.2.2.2.2.2.2.1 c.2.2.2.2.2.2.2.2.2.1 c.2.2.2.2.2.2.2.2.2.2.1 x.2 c.2.2.2.2.2.2.2.2.2.2.2
def impl_Flood_17_sp (n : Nat) : LSpec T := mkSpec T ⟨[((.reg 60), 3000002, 3), ((.cell 32 2), 3000000, 55), ((.cell 40 2), 3000001, 55)], [4, 5, 9, 10, 42, 43, 44, 60, 61, 62], [32, 3000000, 40, 3000001, 72]⟩ impl_Flood_17_sv impl_Flood_17_so (Int × List SRoom × Int × Int × Nat × Int × Int × Int × List (List Int) × Int × Int × SRoom) (Int × List (List Int)) impl_Flood_17_emb impl_Flood_17_prj (impl_Flood_17_b n)
noncomputable def impl_Flood_17_c : Code := ((loopCodes impl_Flood_code)[3]?).getD .skip
def impl_Flood_ann : Ann := fun id => bif Nat.beq id 3000005 then some ⟨[((.cell 32 2), 3000000, 55), ((.cell 40 2), 3000001, 55)], [1, 4, 5], [32, 3000000, 40, 3000001]⟩ else bif Nat.beq id 5000011 then some ⟨[((.cell 32 2), 3000000, 55), ((.cell 40 2), 3000001, 55)], [4, 5], [32, 3000000, 40, 3000001]⟩ else bif Nat.beq id 7000014 then some ⟨[((.cell 32 2), 3000000, 55), ((.cell 40 2), 3000001, 55)], [4, 5, 42, 43, 44], [32, 3000000, 40, 3000001]⟩ else bif Nat.beq id 9000017 then some ⟨[((.cell 32 2), 3000000, 55), ((.cell 40 2), 3000001, 55)], [4, 5, 9, 10, 42, 43, 44], [32, 3000000, 40, 3000001, 72]⟩ else none
def impl_Flood_Ls (n : Nat) : Nat → Option (LSpec T) := fun id => bif Nat.beq id 5 then some (impl_Flood_5_sp n) else bif Nat.beq id 11 then some (impl_Flood_11_sp n) else bif Nat.beq id 14 then some (impl_Flood_14_sp n) else bif Nat.beq id 17 then some (impl_Flood_17_sp n) else none
theorem impl_Flood_5_le (n : Nat) : LoopEq (T := T) (Phi n 22) (impl_Flood_Ls n) impl_Flood_ann n impl_Flood_5_c (impl_Flood_5_sp n) := ⟨mkSpec_dec (fun y => rfl), fun c x => by kernel_rfl, fun K J c x => by kernel_rfl⟩
theorem impl_Flood_11_le (n : Nat) : LoopEq (T := T) (Phi n 22) (impl_Flood_Ls n) impl_Flood_ann n impl_Flood_11_c (impl_Flood_11_sp n) := ⟨mkSpec_dec (fun y => rfl), fun c x => by kernel_rfl, fun K J c x => by kernel_rfl⟩
theorem impl_Flood_14_le (n : Nat) : LoopEq (T := T) (Phi n 22) (impl_Flood_Ls n) impl_Flood_ann n impl_Flood_14_c (impl_Flood_14_sp n) := ⟨mkSpec_dec (fun y => rfl), fun c x => by kernel_rfl, fun K J c x => by kernel_rfl⟩
theorem impl_Flood_17_le (n : Nat) : LoopEq (T := T) (Phi n 22) (impl_Flood_Ls n) impl_Flood_ann n impl_Flood_17_c (impl_Flood_17_sp n) := ⟨mkSpec_dec (fun y => rfl), fun c x => by kernel_rfl, fun K J c x => by kernel_rfl⟩
theorem impl_Flood_tie (n : Nat) (h0 : SHull) (rooms1 : List SRoom) : evF (T := T) (Phi n 22) (impl_Flood_Ls n) impl_Flood_ann n Try.f27 (sg 27) [vA T 26 h0, vA T 49 rooms1] impl_Flood_dec = impl_Flood n h0 rooms1 := by kernel_rfl
theorem impl_Flood_lo (n : Nat) : LoopsOk (T := T) (Phi n 22) (impl_Flood_Ls n) impl_Flood_ann n impl_Flood_code := loopsOk_all (cs := [impl_Flood_5_c, impl_Flood_11_c, impl_Flood_14_c, impl_Flood_17_c]) (by kernel_rfl) ⟨⟨_, by kernel_rfl, impl_Flood_5_le n⟩, ⟨_, by kernel_rfl, impl_Flood_11_le n⟩, ⟨_, by kernel_rfl, impl_Flood_14_le n⟩, ⟨_, by kernel_rfl, impl_Flood_17_le n⟩, trivial⟩
theorem impl_Flood_ok (n : Nat) : EntOk Try.prog (ents n) (impl_Flood_ent n) := by
  intro hs ar y hg h
  replace h : impl_Flood_D n ar = some y := h
  unfold impl_Flood_D at h
  replace h := ocons_some h
  obtain ⟨a0, r0, rfl, h⟩ := h
  replace h := ocons_some h
  obtain ⟨a1, r1, rfl, h⟩ := h
  replace h := onil_some h
  obtain ⟨rfl, h⟩ := h
  obtain ⟨h0, qh0, h⟩ := obind_some h
  obtain ⟨rooms1, qh1, h⟩ := obind_some h
  rw [argV_eq ok qh0, argV_eq ok qh1]
  exact call_of (phiE_nat _ _) hs ok mixed Try.func27 (c := impl_Flood_code) (by kernel_rfl) (impl_Flood_lo n) (by kernel_rfl) (by kernel_rfl) (by kernel_rfl) impl_Flood_de ((impl_Flood_tie n h0 rooms1).trans h)
noncomputable def laws_eqIntS_code : Code := match Try.f37.body with | some c => c | none => .skip
def laws_eqIntS_4_sv : List Sv := [.one (.arr 3), .one (.arr 3), .one (.int .i64)]
def laws_eqIntS_4_so : List So := []
def laws_eqIntS_4_emb (c : List Int × List Int) (x : Int) : EVs T laws_eqIntS_4_sv × EOs T laws_eqIntS_4_so := ((c.1, c.2, x, ()), ())
def laws_eqIntS_4_prj (y : EVs T laws_eqIntS_4_sv × EOs T laws_eqIntS_4_so) : (List Int × List Int) × Int := ((y.1.1, y.1.2.1), (y.1.2.2.1))
def laws_eqIntS_4_b (n : Nat) {R : Type} (K : Ex → Sm.St T → Option R) (c : List Int × List Int) (x : Int) (J : Int → Option R) : Option R :=
  laws_eqIntS_L4 n (K (.exit 0) (stOf (T := T) [] [] [] [] () ())) (fun (y0 : Bool) => K .ret (stOf (T := T) [4] [] [.one (.bool)] [] (y0, ()) ())) J c.1 c.2 x
def laws_eqIntS_4_sp (n : Nat) : LSpec T := mkSpec T ⟨[], [0, 1, 5], []⟩ laws_eqIntS_4_sv laws_eqIntS_4_so (List Int × List Int) (Int) laws_eqIntS_4_emb laws_eqIntS_4_prj (laws_eqIntS_4_b n)
noncomputable def laws_eqIntS_4_c : Code := ((loopCodes laws_eqIntS_code)[0]?).getD .skip
def laws_eqIntS_ann : Ann := fun id => bif Nat.beq id 3000004 then some ⟨[], [], []⟩ else bif Nat.beq id 2000004 then some ⟨[], [4], []⟩ else none
def laws_eqIntS_Ls (n : Nat) : Nat → Option (LSpec T) := fun id => bif Nat.beq id 4 then some (laws_eqIntS_4_sp n) else none
theorem laws_eqIntS_4_le (n : Nat) : LoopEq (T := T) (Phi n 23) (laws_eqIntS_Ls n) laws_eqIntS_ann n laws_eqIntS_4_c (laws_eqIntS_4_sp n) := ⟨mkSpec_dec (fun y => rfl), fun c x => by kernel_rfl, fun K J c x => by kernel_rfl⟩
theorem laws_eqIntS_tie (n : Nat) (a0 : List Int) (b1 : List Int) : evF (T := T) (Phi n 23) (laws_eqIntS_Ls n) laws_eqIntS_ann n Try.f37 (sg 37) [vA T 55 a0, vA T 55 b1] laws_eqIntS_dec = laws_eqIntS n a0 b1 := by kernel_rfl
theorem laws_eqIntS_lo (n : Nat) : LoopsOk (T := T) (Phi n 23) (laws_eqIntS_Ls n) laws_eqIntS_ann n laws_eqIntS_code := loopsOk_all (cs := [laws_eqIntS_4_c]) (by kernel_rfl) ⟨⟨_, by kernel_rfl, laws_eqIntS_4_le n⟩, trivial⟩
theorem laws_eqIntS_ok (n : Nat) : EntOk Try.prog (ents n) (laws_eqIntS_ent n) := by
  intro hs ar y hg h
  replace h : laws_eqIntS_D n ar = some y := h
  unfold laws_eqIntS_D at h
  replace h := ocons_some h
  obtain ⟨a0, r0, rfl, h⟩ := h
  replace h := ocons_some h
  obtain ⟨a1, r1, rfl, h⟩ := h
  replace h := onil_some h
  obtain ⟨rfl, h⟩ := h
  obtain ⟨a0, qh0, h⟩ := obind_some h
  obtain ⟨b1, qh1, h⟩ := obind_some h
  rw [argV_eq ok qh0, argV_eq ok qh1]
  exact call_of (phiE_nat _ _) hs ok mixed Try.func37 (c := laws_eqIntS_code) (by kernel_rfl) (laws_eqIntS_lo n) (by kernel_rfl) (by kernel_rfl) (by kernel_rfl) laws_eqIntS_de ((laws_eqIntS_tie n a0 b1).trans h)
noncomputable def laws_eqIntSS_code : Code := match Try.f106.body with | some c => c | none => .skip
def laws_eqIntSS_4_sv : List Sv := [.one (.arr 55), .one (.arr 55), .one (.int .i64)]
def laws_eqIntSS_4_so : List So := []
def laws_eqIntSS_4_emb (c : List (List Int) × List (List Int)) (x : Int) : EVs T laws_eqIntSS_4_sv × EOs T laws_eqIntSS_4_so := ((c.1, c.2, x, ()), ())
def laws_eqIntSS_4_prj (y : EVs T laws_eqIntSS_4_sv × EOs T laws_eqIntSS_4_so) : (List (List Int) × List (List Int)) × Int := ((y.1.1, y.1.2.1), (y.1.2.2.1))
def laws_eqIntSS_4_b (n : Nat) {R : Type} (K : Ex → Sm.St T → Option R) (c : List (List Int) × List (List Int)) (x : Int) (J : Int → Option R) : Option R :=
  laws_eqIntSS_L4 n (K (.exit 0) (stOf (T := T) [] [] [] [] () ())) (fun (y0 : Bool) => K .ret (stOf (T := T) [4] [] [.one (.bool)] [] (y0, ()) ())) J c.1 c.2 x
def laws_eqIntSS_4_sp (n : Nat) : LSpec T := mkSpec T ⟨[], [0, 1, 5], []⟩ laws_eqIntSS_4_sv laws_eqIntSS_4_so (List (List Int) × List (List Int)) (Int) laws_eqIntSS_4_emb laws_eqIntSS_4_prj (laws_eqIntSS_4_b n)
noncomputable def laws_eqIntSS_4_c : Code := ((loopCodes laws_eqIntSS_code)[0]?).getD .skip
def laws_eqIntSS_ann : Ann := fun id => bif Nat.beq id 3000004 then some ⟨[], [], []⟩ else bif Nat.beq id 2000004 then some ⟨[], [4], []⟩ else none
def laws_eqIntSS_Ls (n : Nat) : Nat → Option (LSpec T) := fun id => bif Nat.beq id 4 then some (laws_eqIntSS_4_sp n) else none
theorem laws_eqIntSS_4_le (n : Nat) : LoopEq (T := T) (Phi n 24) (laws_eqIntSS_Ls n) laws_eqIntSS_ann n laws_eqIntSS_4_c (laws_eqIntSS_4_sp n) := ⟨mkSpec_dec (fun y => rfl), fun c x => by kernel_rfl, fun K J c x => by kernel_rfl⟩
theorem laws_eqIntSS_tie (n : Nat) (a0 : List (List Int)) (b1 : List (List Int)) : evF (T := T) (Phi n 24) (laws_eqIntSS_Ls n) laws_eqIntSS_ann n Try.f106 (sg 106) [vA T 24 a0, vA T 24 b1] laws_eqIntSS_dec = laws_eqIntSS n a0 b1 := by kernel_rfl
theorem laws_eqIntSS_lo (n : Nat) : LoopsOk (T := T) (Phi n 24) (laws_eqIntSS_Ls n) laws_eqIntSS_ann n laws_eqIntSS_code := loopsOk_all (cs := [laws_eqIntSS_4_c]) (by kernel_rfl) ⟨⟨_, by kernel_rfl, laws_eqIntSS_4_le n⟩, trivial⟩
theorem laws_eqIntSS_ok (n : Nat) : EntOk Try.prog (ents n) (laws_eqIntSS_ent n) := by
  intro hs ar y hg h
  replace h : laws_eqIntSS_D n ar = some y := h
  unfold laws_eqIntSS_D at h
  replace h := ocons_some h
  obtain ⟨a0, r0, rfl, h⟩ := h
  replace h := ocons_some h
  obtain ⟨a1, r1, rfl, h⟩ := h
  replace h := onil_some h
  obtain ⟨rfl, h⟩ := h
  obtain ⟨a0, qh0, h⟩ := obind_some h
  obtain ⟨b1, qh1, h⟩ := obind_some h
  rw [argV_eq ok qh0, argV_eq ok qh1]
  exact call_of (phiE_nat _ _) hs ok mixed Try.func106 (c := laws_eqIntSS_code) (by kernel_rfl) (laws_eqIntSS_lo n) (by kernel_rfl) (by kernel_rfl) (by kernel_rfl) laws_eqIntSS_de ((laws_eqIntSS_tie n a0 b1).trans h)
noncomputable def laws_eqHull_code : Code := match Try.f28.body with | some c => c | none => .skip
def laws_eqHull_ann : Ann := fun id => none
def laws_eqHull_Ls (n : Nat) : Nat → Option (LSpec T) := fun id => none
theorem laws_eqHull_tie (n : Nat) (a0 : SHull) (b1 : SHull) : evF (T := T) (Phi n 25) (laws_eqHull_Ls n) laws_eqHull_ann n Try.f28 (sg 28) [vA T 26 a0, vA T 26 b1] laws_eqHull_dec = laws_eqHull n a0 b1 := by kernel_rfl
theorem laws_eqHull_lo (n : Nat) : LoopsOk (T := T) (Phi n 25) (laws_eqHull_Ls n) laws_eqHull_ann n laws_eqHull_code := loopsOk_all (cs := []) (by kernel_rfl) trivial
theorem laws_eqHull_ok (n : Nat) : EntOk Try.prog (ents n) (laws_eqHull_ent n) := by
  intro hs ar y hg h
  replace h : laws_eqHull_D n ar = some y := h
  unfold laws_eqHull_D at h
  replace h := ocons_some h
  obtain ⟨a0, r0, rfl, h⟩ := h
  replace h := ocons_some h
  obtain ⟨a1, r1, rfl, h⟩ := h
  replace h := onil_some h
  obtain ⟨rfl, h⟩ := h
  obtain ⟨a0, qh0, h⟩ := obind_some h
  obtain ⟨b1, qh1, h⟩ := obind_some h
  rw [argV_eq ok qh0, argV_eq ok qh1]
  exact call_of (phiE_nat _ _) hs ok mixed Try.func28 (c := laws_eqHull_code) (by kernel_rfl) (laws_eqHull_lo n) (by kernel_rfl) (by kernel_rfl) (by kernel_rfl) laws_eqHull_de ((laws_eqHull_tie n a0 b1).trans h)
noncomputable def laws_eqRoom_code : Code := match Try.f107.body with | some c => c | none => .skip
def laws_eqRoom_ann : Ann := fun id => none
def laws_eqRoom_Ls (n : Nat) : Nat → Option (LSpec T) := fun id => none
theorem laws_eqRoom_tie (n : Nat) (a0 : SRoom) (b1 : SRoom) : evF (T := T) (Phi n 26) (laws_eqRoom_Ls n) laws_eqRoom_ann n Try.f107 (sg 107) [vA T 166 a0, vA T 166 b1] laws_eqRoom_dec = laws_eqRoom n a0 b1 := by kernel_rfl
theorem laws_eqRoom_lo (n : Nat) : LoopsOk (T := T) (Phi n 26) (laws_eqRoom_Ls n) laws_eqRoom_ann n laws_eqRoom_code := loopsOk_all (cs := []) (by kernel_rfl) trivial
theorem laws_eqRoom_ok (n : Nat) : EntOk Try.prog (ents n) (laws_eqRoom_ent n) := by
  intro hs ar y hg h
  replace h : laws_eqRoom_D n ar = some y := h
  unfold laws_eqRoom_D at h
  replace h := ocons_some h
  obtain ⟨a0, r0, rfl, h⟩ := h
  replace h := ocons_some h
  obtain ⟨a1, r1, rfl, h⟩ := h
  replace h := onil_some h
  obtain ⟨rfl, h⟩ := h
  obtain ⟨a0, qh0, h⟩ := obind_some h
  obtain ⟨b1, qh1, h⟩ := obind_some h
  rw [argV_eq ok qh0, argV_eq ok qh1]
  exact call_of (phiE_nat _ _) hs ok mixed Try.func107 (c := laws_eqRoom_code) (by kernel_rfl) (laws_eqRoom_lo n) (by kernel_rfl) (by kernel_rfl) (by kernel_rfl) laws_eqRoom_de ((laws_eqRoom_tie n a0 b1).trans h)
noncomputable def laws_eqRoomS_code : Code := match Try.f29.body with | some c => c | none => .skip
def laws_eqRoomS_4_sv : List Sv := [.one (.arr 166), .one (.arr 166), .one (.int .i64)]
def laws_eqRoomS_4_so : List So := []
def laws_eqRoomS_4_emb (c : List SRoom × List SRoom) (x : Int) : EVs T laws_eqRoomS_4_sv × EOs T laws_eqRoomS_4_so := ((c.1, c.2, x, ()), ())
def laws_eqRoomS_4_prj (y : EVs T laws_eqRoomS_4_sv × EOs T laws_eqRoomS_4_so) : (List SRoom × List SRoom) × Int := ((y.1.1, y.1.2.1), (y.1.2.2.1))
def laws_eqRoomS_4_b (n : Nat) {R : Type} (K : Ex → Sm.St T → Option R) (c : List SRoom × List SRoom) (x : Int) (J : Int → Option R) : Option R :=
  laws_eqRoomS_L4 n (K (.exit 0) (stOf (T := T) [] [] [] [] () ())) (fun (y0 : Bool) => K .ret (stOf (T := T) [4] [] [.one (.bool)] [] (y0, ()) ())) J c.1 c.2 x
def laws_eqRoomS_4_sp (n : Nat) : LSpec T := mkSpec T ⟨[], [0, 1, 5], []⟩ laws_eqRoomS_4_sv laws_eqRoomS_4_so (List SRoom × List SRoom) (Int) laws_eqRoomS_4_emb laws_eqRoomS_4_prj (laws_eqRoomS_4_b n)
noncomputable def laws_eqRoomS_4_c : Code := ((loopCodes laws_eqRoomS_code)[0]?).getD .skip
def laws_eqRoomS_ann : Ann := fun id => bif Nat.beq id 3000004 then some ⟨[], [], []⟩ else bif Nat.beq id 2000004 then some ⟨[], [4], []⟩ else none
def laws_eqRoomS_Ls (n : Nat) : Nat → Option (LSpec T) := fun id => bif Nat.beq id 4 then some (laws_eqRoomS_4_sp n) else none
theorem laws_eqRoomS_4_le (n : Nat) : LoopEq (T := T) (Phi n 27) (laws_eqRoomS_Ls n) laws_eqRoomS_ann n laws_eqRoomS_4_c (laws_eqRoomS_4_sp n) := ⟨mkSpec_dec (fun y => rfl), fun c x => by kernel_rfl, fun K J c x => by kernel_rfl⟩
theorem laws_eqRoomS_tie (n : Nat) (a0 : List SRoom) (b1 : List SRoom) : evF (T := T) (Phi n 27) (laws_eqRoomS_Ls n) laws_eqRoomS_ann n Try.f29 (sg 29) [vA T 49 a0, vA T 49 b1] laws_eqRoomS_dec = laws_eqRoomS n a0 b1 := by kernel_rfl
theorem laws_eqRoomS_lo (n : Nat) : LoopsOk (T := T) (Phi n 27) (laws_eqRoomS_Ls n) laws_eqRoomS_ann n laws_eqRoomS_code := loopsOk_all (cs := [laws_eqRoomS_4_c]) (by kernel_rfl) ⟨⟨_, by kernel_rfl, laws_eqRoomS_4_le n⟩, trivial⟩
theorem laws_eqRoomS_ok (n : Nat) : EntOk Try.prog (ents n) (laws_eqRoomS_ent n) := by
  intro hs ar y hg h
  replace h : laws_eqRoomS_D n ar = some y := h
  unfold laws_eqRoomS_D at h
  replace h := ocons_some h
  obtain ⟨a0, r0, rfl, h⟩ := h
  replace h := ocons_some h
  obtain ⟨a1, r1, rfl, h⟩ := h
  replace h := onil_some h
  obtain ⟨rfl, h⟩ := h
  obtain ⟨a0, qh0, h⟩ := obind_some h
  obtain ⟨b1, qh1, h⟩ := obind_some h
  rw [argV_eq ok qh0, argV_eq ok qh1]
  exact call_of (phiE_nat _ _) hs ok mixed Try.func29 (c := laws_eqRoomS_code) (by kernel_rfl) (laws_eqRoomS_lo n) (by kernel_rfl) (by kernel_rfl) (by kernel_rfl) laws_eqRoomS_de ((laws_eqRoomS_tie n a0 b1).trans h)
noncomputable def laws_markIntS_code : Code := match Try.f40.body with | some c => c | none => .skip
def laws_markIntS_2_sv : List Sv := [.one (.own 4503599627370496 3 false), .one (.int .i64), .one (.int .i64)]
def laws_markIntS_2_so : List So := [.arr 3 true]
def laws_markIntS_2_emb (c : Unit) (x : Int × Int × List Int) : EVs T laws_markIntS_2_sv × EOs T laws_markIntS_2_so := (((), x.1, x.2.1, ()), (x.2.2, ()))
def laws_markIntS_2_prj (y : EVs T laws_markIntS_2_sv × EOs T laws_markIntS_2_so) : Unit × (Int × Int × List Int) := ((), (y.1.2.1, y.1.2.2.1, y.2.1))
def laws_markIntS_2_b (n : Nat) {R : Type} (K : Ex → Sm.St T → Option R) (c : Unit) (x : Int × Int × List Int) (J : (Int × Int × List Int) → Option R) : Option R :=
  laws_markIntS_L2 n (fun (y0 : Int) (y1 : List Int) => K (.exit 0) (stOf (T := T) [1] [4503599627370496] [.one (.int .i64)] [.arr 3 true] (y0, ()) (y1, ()))) (fun z0 z1 z2 => J (z0, z1, z2)) x.1 x.2.1 x.2.2
def laws_markIntS_2_sp (n : Nat) : LSpec T := mkSpec T ⟨[], [0, 1, 5], [4503599627370496]⟩ laws_markIntS_2_sv laws_markIntS_2_so (Unit) (Int × Int × List Int) laws_markIntS_2_emb laws_markIntS_2_prj (laws_markIntS_2_b n)
noncomputable def laws_markIntS_2_c : Code := ((loopCodes laws_markIntS_code)[0]?).getD .skip
def laws_markIntS_ann : Ann := fun id => bif Nat.beq id 3000002 then some ⟨[], [1], [4503599627370496]⟩ else none
def laws_markIntS_Ls (n : Nat) : Nat → Option (LSpec T) := fun id => bif Nat.beq id 2 then some (laws_markIntS_2_sp n) else none
theorem laws_markIntS_2_le (n : Nat) : LoopEq (T := T) (Phi n 28) (laws_markIntS_Ls n) laws_markIntS_ann n laws_markIntS_2_c (laws_markIntS_2_sp n) := ⟨mkSpec_dec (fun y => rfl), fun c x => by kernel_rfl, fun K J c x => by kernel_rfl⟩
theorem laws_markIntS_tie (n : Nat) (a0 : List Int) (k1 : Int) : evF (T := T) (Phi n 28) (laws_markIntS_Ls n) laws_markIntS_ann n Try.f40 (sg 40) [vA T 55 a0, vA T 3 k1] laws_markIntS_dec = laws_markIntS n a0 k1 := by kernel_rfl
theorem laws_markIntS_lo (n : Nat) : LoopsOk (T := T) (Phi n 28) (laws_markIntS_Ls n) laws_markIntS_ann n laws_markIntS_code := loopsOk_all (cs := [laws_markIntS_2_c]) (by kernel_rfl) ⟨⟨_, by kernel_rfl, laws_markIntS_2_le n⟩, trivial⟩
theorem laws_markIntS_ok (n : Nat) : EntOk Try.prog (ents n) (laws_markIntS_ent n) := by
  intro hs ar y hg h
  replace h : laws_markIntS_D n ar = some y := h
  unfold laws_markIntS_D at h
  replace h := ocons_some h
  obtain ⟨a0, r0, rfl, h⟩ := h
  replace h := ocons_some h
  obtain ⟨a1, r1, rfl, h⟩ := h
  replace h := onil_some h
  obtain ⟨rfl, h⟩ := h
  obtain ⟨a0, qh0, h⟩ := obind_some h
  obtain ⟨k1, qh1, h⟩ := obind_some h
  rw [argV_eq ok qh0, argV_eq ok qh1]
  exact call_of (phiE_nat _ _) hs ok mixed Try.func40 (c := laws_markIntS_code) (by kernel_rfl) (laws_markIntS_lo n) (by kernel_rfl) (by kernel_rfl) (by kernel_rfl) laws_markIntS_de ((laws_markIntS_tie n a0 k1).trans h)
noncomputable def laws_markIntSS_code : Code := match Try.f108.body with | some c => c | none => .skip
def laws_markIntSS_2_sv : List Sv := [.one (.own 4503599627370496 55 false), .one (.int .i64), .one (.int .i64)]
def laws_markIntSS_2_so : List So := [.arr 55 true]
def laws_markIntSS_2_emb (c : Unit) (x : Int × Int × List (List Int)) : EVs T laws_markIntSS_2_sv × EOs T laws_markIntSS_2_so := (((), x.1, x.2.1, ()), (x.2.2, ()))
def laws_markIntSS_2_prj (y : EVs T laws_markIntSS_2_sv × EOs T laws_markIntSS_2_so) : Unit × (Int × Int × List (List Int)) := ((), (y.1.2.1, y.1.2.2.1, y.2.1))
def laws_markIntSS_2_b (n : Nat) {R : Type} (K : Ex → Sm.St T → Option R) (c : Unit) (x : Int × Int × List (List Int)) (J : (Int × Int × List (List Int)) → Option R) : Option R :=
  laws_markIntSS_L2 n (fun (y0 : Int) (y1 : List (List Int)) => K (.exit 0) (stOf (T := T) [1] [4503599627370496] [.one (.int .i64)] [.arr 55 true] (y0, ()) (y1, ()))) (fun z0 z1 z2 => J (z0, z1, z2)) x.1 x.2.1 x.2.2
def laws_markIntSS_2_sp (n : Nat) : LSpec T := mkSpec T ⟨[], [0, 1, 5], [4503599627370496]⟩ laws_markIntSS_2_sv laws_markIntSS_2_so (Unit) (Int × Int × List (List Int)) laws_markIntSS_2_emb laws_markIntSS_2_prj (laws_markIntSS_2_b n)
noncomputable def laws_markIntSS_2_c : Code := ((loopCodes laws_markIntSS_code)[0]?).getD .skip
def laws_markIntSS_ann : Ann := fun id => bif Nat.beq id 3000002 then some ⟨[], [1], [4503599627370496]⟩ else none
def laws_markIntSS_Ls (n : Nat) : Nat → Option (LSpec T) := fun id => bif Nat.beq id 2 then some (laws_markIntSS_2_sp n) else none
theorem laws_markIntSS_2_le (n : Nat) : LoopEq (T := T) (Phi n 29) (laws_markIntSS_Ls n) laws_markIntSS_ann n laws_markIntSS_2_c (laws_markIntSS_2_sp n) := ⟨mkSpec_dec (fun y => rfl), fun c x => by kernel_rfl, fun K J c x => by kernel_rfl⟩
theorem laws_markIntSS_tie (n : Nat) (a0 : List (List Int)) (k1 : Int) : evF (T := T) (Phi n 29) (laws_markIntSS_Ls n) laws_markIntSS_ann n Try.f108 (sg 108) [vA T 24 a0, vA T 3 k1] laws_markIntSS_dec = laws_markIntSS n a0 k1 := by kernel_rfl
theorem laws_markIntSS_lo (n : Nat) : LoopsOk (T := T) (Phi n 29) (laws_markIntSS_Ls n) laws_markIntSS_ann n laws_markIntSS_code := loopsOk_all (cs := [laws_markIntSS_2_c]) (by kernel_rfl) ⟨⟨_, by kernel_rfl, laws_markIntSS_2_le n⟩, trivial⟩
theorem laws_markIntSS_ok (n : Nat) : EntOk Try.prog (ents n) (laws_markIntSS_ent n) := by
  intro hs ar y hg h
  replace h : laws_markIntSS_D n ar = some y := h
  unfold laws_markIntSS_D at h
  replace h := ocons_some h
  obtain ⟨a0, r0, rfl, h⟩ := h
  replace h := ocons_some h
  obtain ⟨a1, r1, rfl, h⟩ := h
  replace h := onil_some h
  obtain ⟨rfl, h⟩ := h
  obtain ⟨a0, qh0, h⟩ := obind_some h
  obtain ⟨k1, qh1, h⟩ := obind_some h
  rw [argV_eq ok qh0, argV_eq ok qh1]
  exact call_of (phiE_nat _ _) hs ok mixed Try.func108 (c := laws_markIntSS_code) (by kernel_rfl) (laws_markIntSS_lo n) (by kernel_rfl) (by kernel_rfl) (by kernel_rfl) laws_markIntSS_de ((laws_markIntSS_tie n a0 k1).trans h)
noncomputable def laws_markHull_code : Code := match Try.f30.body with | some c => c | none => .skip
def laws_markHull_ann : Ann := fun id => none
def laws_markHull_Ls (n : Nat) : Nat → Option (LSpec T) := fun id => none
theorem laws_markHull_tie (n : Nat) (a0 : SHull) (k1 : Int) : evF (T := T) (Phi n 30) (laws_markHull_Ls n) laws_markHull_ann n Try.f30 (sg 30) [vA T 26 a0, vA T 3 k1] laws_markHull_dec = laws_markHull n a0 k1 := by kernel_rfl
theorem laws_markHull_lo (n : Nat) : LoopsOk (T := T) (Phi n 30) (laws_markHull_Ls n) laws_markHull_ann n laws_markHull_code := loopsOk_all (cs := []) (by kernel_rfl) trivial
theorem laws_markHull_ok (n : Nat) : EntOk Try.prog (ents n) (laws_markHull_ent n) := by
  intro hs ar y hg h
  replace h : laws_markHull_D n ar = some y := h
  unfold laws_markHull_D at h
  replace h := ocons_some h
  obtain ⟨a0, r0, rfl, h⟩ := h
  replace h := ocons_some h
  obtain ⟨a1, r1, rfl, h⟩ := h
  replace h := onil_some h
  obtain ⟨rfl, h⟩ := h
  obtain ⟨a0, qh0, h⟩ := obind_some h
  obtain ⟨k1, qh1, h⟩ := obind_some h
  rw [argV_eq ok qh0, argV_eq ok qh1]
  exact call_of (phiE_nat _ _) hs ok mixed Try.func30 (c := laws_markHull_code) (by kernel_rfl) (laws_markHull_lo n) (by kernel_rfl) (by kernel_rfl) (by kernel_rfl) laws_markHull_de ((laws_markHull_tie n a0 k1).trans h)
noncomputable def laws_markRoomS_code : Code := match Try.f31.body with | some c => c | none => .skip
def laws_markRoomS_2_sv : List Sv := [.one (.own 4503599627370496 166 false), .one (.int .i64), .one (.int .i64)]
def laws_markRoomS_2_so : List So := [.arr 166 true]
def laws_markRoomS_2_emb (c : Unit) (x : Int × Int × List SRoom) : EVs T laws_markRoomS_2_sv × EOs T laws_markRoomS_2_so := (((), x.1, x.2.1, ()), (x.2.2, ()))
def laws_markRoomS_2_prj (y : EVs T laws_markRoomS_2_sv × EOs T laws_markRoomS_2_so) : Unit × (Int × Int × List SRoom) := ((), (y.1.2.1, y.1.2.2.1, y.2.1))
def laws_markRoomS_2_b (n : Nat) {R : Type} (K : Ex → Sm.St T → Option R) (c : Unit) (x : Int × Int × List SRoom) (J : (Int × Int × List SRoom) → Option R) : Option R :=
  laws_markRoomS_L2 n (fun (y0 : Int) (y1 : List SRoom) => K (.exit 0) (stOf (T := T) [1] [4503599627370496] [.one (.int .i64)] [.arr 166 true] (y0, ()) (y1, ()))) (fun z0 z1 z2 => J (z0, z1, z2)) x.1 x.2.1 x.2.2
def laws_markRoomS_2_sp (n : Nat) : LSpec T := mkSpec T ⟨[], [0, 1, 5], [4503599627370496]⟩ laws_markRoomS_2_sv laws_markRoomS_2_so (Unit) (Int × Int × List SRoom) laws_markRoomS_2_emb laws_markRoomS_2_prj (laws_markRoomS_2_b n)
noncomputable def laws_markRoomS_2_c : Code := ((loopCodes laws_markRoomS_code)[0]?).getD .skip
def laws_markRoomS_ann : Ann := fun id => bif Nat.beq id 3000002 then some ⟨[], [1], [4503599627370496]⟩ else none
def laws_markRoomS_Ls (n : Nat) : Nat → Option (LSpec T) := fun id => bif Nat.beq id 2 then some (laws_markRoomS_2_sp n) else none
theorem laws_markRoomS_2_le (n : Nat) : LoopEq (T := T) (Phi n 31) (laws_markRoomS_Ls n) laws_markRoomS_ann n laws_markRoomS_2_c (laws_markRoomS_2_sp n) := ⟨mkSpec_dec (fun y => rfl), fun c x => by kernel_rfl, fun K J c x => by kernel_rfl⟩
theorem laws_markRoomS_tie (n : Nat) (a0 : List SRoom) (k1 : Int) : evF (T := T) (Phi n 31) (laws_markRoomS_Ls n) laws_markRoomS_ann n Try.f31 (sg 31) [vA T 49 a0, vA T 3 k1] laws_markRoomS_dec = laws_markRoomS n a0 k1 := by kernel_rfl
theorem laws_markRoomS_lo (n : Nat) : LoopsOk (T := T) (Phi n 31) (laws_markRoomS_Ls n) laws_markRoomS_ann n laws_markRoomS_code := loopsOk_all (cs := [laws_markRoomS_2_c]) (by kernel_rfl) ⟨⟨_, by kernel_rfl, laws_markRoomS_2_le n⟩, trivial⟩
theorem laws_markRoomS_ok (n : Nat) : EntOk Try.prog (ents n) (laws_markRoomS_ent n) := by
  intro hs ar y hg h
  replace h : laws_markRoomS_D n ar = some y := h
  unfold laws_markRoomS_D at h
  replace h := ocons_some h
  obtain ⟨a0, r0, rfl, h⟩ := h
  replace h := ocons_some h
  obtain ⟨a1, r1, rfl, h⟩ := h
  replace h := onil_some h
  obtain ⟨rfl, h⟩ := h
  obtain ⟨a0, qh0, h⟩ := obind_some h
  obtain ⟨k1, qh1, h⟩ := obind_some h
  rw [argV_eq ok qh0, argV_eq ok qh1]
  exact call_of (phiE_nat _ _) hs ok mixed Try.func31 (c := laws_markRoomS_code) (by kernel_rfl) (laws_markRoomS_lo n) (by kernel_rfl) (by kernel_rfl) (by kernel_rfl) laws_markRoomS_de ((laws_markRoomS_tie n a0 k1).trans h)
noncomputable def laws_heldIntS_code : Code := match Try.f41.body with | some c => c | none => .skip
def laws_heldIntS_2_sv : List Sv := [.one (.arr 3), .one (.int .i64), .one (.int .i64)]
def laws_heldIntS_2_so : List So := []
def laws_heldIntS_2_emb (c : List Int) (x : Int × Int) : EVs T laws_heldIntS_2_sv × EOs T laws_heldIntS_2_so := ((c, x.1, x.2, ()), ())
def laws_heldIntS_2_prj (y : EVs T laws_heldIntS_2_sv × EOs T laws_heldIntS_2_so) : List Int × (Int × Int) := ((y.1.1), (y.1.2.1, y.1.2.2.1))
def laws_heldIntS_2_b (n : Nat) {R : Type} (K : Ex → Sm.St T → Option R) (c : List Int) (x : Int × Int) (J : (Int × Int) → Option R) : Option R :=
  laws_heldIntS_L2 n (fun (y0 : Int) => K (.exit 0) (stOf (T := T) [1] [] [.one (.int .i64)] [] (y0, ()) ())) (fun (y0 : Int) => K .ret (stOf (T := T) [4] [] [.one (.int .i64)] [] (y0, ()) ())) (fun z0 z1 => J (z0, z1)) c x.1 x.2
def laws_heldIntS_2_sp (n : Nat) : LSpec T := mkSpec T ⟨[], [0, 1, 5], []⟩ laws_heldIntS_2_sv laws_heldIntS_2_so (List Int) (Int × Int) laws_heldIntS_2_emb laws_heldIntS_2_prj (laws_heldIntS_2_b n)
noncomputable def laws_heldIntS_2_c : Code := ((loopCodes laws_heldIntS_code)[0]?).getD .skip
def laws_heldIntS_ann : Ann := fun id => bif Nat.beq id 3000002 then some ⟨[], [1], []⟩ else bif Nat.beq id 2000002 then some ⟨[], [4], []⟩ else none
def laws_heldIntS_Ls (n : Nat) : Nat → Option (LSpec T) := fun id => bif Nat.beq id 2 then some (laws_heldIntS_2_sp n) else none
theorem laws_heldIntS_2_le (n : Nat) : LoopEq (T := T) (Phi n 32) (laws_heldIntS_Ls n) laws_heldIntS_ann n laws_heldIntS_2_c (laws_heldIntS_2_sp n) := ⟨mkSpec_dec (fun y => rfl), fun c x => by kernel_rfl, fun K J c x => by kernel_rfl⟩
theorem laws_heldIntS_tie (n : Nat) (a0 : List Int) (k1 : Int) : evF (T := T) (Phi n 32) (laws_heldIntS_Ls n) laws_heldIntS_ann n Try.f41 (sg 41) [vA T 55 a0, vA T 3 k1] laws_heldIntS_dec = laws_heldIntS n a0 k1 := by kernel_rfl
theorem laws_heldIntS_lo (n : Nat) : LoopsOk (T := T) (Phi n 32) (laws_heldIntS_Ls n) laws_heldIntS_ann n laws_heldIntS_code := loopsOk_all (cs := [laws_heldIntS_2_c]) (by kernel_rfl) ⟨⟨_, by kernel_rfl, laws_heldIntS_2_le n⟩, trivial⟩
theorem laws_heldIntS_ok (n : Nat) : EntOk Try.prog (ents n) (laws_heldIntS_ent n) := by
  intro hs ar y hg h
  replace h : laws_heldIntS_D n ar = some y := h
  unfold laws_heldIntS_D at h
  replace h := ocons_some h
  obtain ⟨a0, r0, rfl, h⟩ := h
  replace h := ocons_some h
  obtain ⟨a1, r1, rfl, h⟩ := h
  replace h := onil_some h
  obtain ⟨rfl, h⟩ := h
  obtain ⟨a0, qh0, h⟩ := obind_some h
  obtain ⟨k1, qh1, h⟩ := obind_some h
  rw [argV_eq ok qh0, argV_eq ok qh1]
  exact call_of (phiE_nat _ _) hs ok mixed Try.func41 (c := laws_heldIntS_code) (by kernel_rfl) (laws_heldIntS_lo n) (by kernel_rfl) (by kernel_rfl) (by kernel_rfl) laws_heldIntS_de ((laws_heldIntS_tie n a0 k1).trans h)
noncomputable def laws_heldIntSS_code : Code := match Try.f109.body with | some c => c | none => .skip
def laws_heldIntSS_2_sv : List Sv := [.one (.arr 55), .one (.int .i64), .one (.int .i64)]
def laws_heldIntSS_2_so : List So := []
def laws_heldIntSS_2_emb (c : List (List Int)) (x : Int × Int) : EVs T laws_heldIntSS_2_sv × EOs T laws_heldIntSS_2_so := ((c, x.1, x.2, ()), ())
def laws_heldIntSS_2_prj (y : EVs T laws_heldIntSS_2_sv × EOs T laws_heldIntSS_2_so) : List (List Int) × (Int × Int) := ((y.1.1), (y.1.2.1, y.1.2.2.1))
def laws_heldIntSS_2_b (n : Nat) {R : Type} (K : Ex → Sm.St T → Option R) (c : List (List Int)) (x : Int × Int) (J : (Int × Int) → Option R) : Option R :=
  laws_heldIntSS_L2 n (fun (y0 : Int) => K (.exit 0) (stOf (T := T) [1] [] [.one (.int .i64)] [] (y0, ()) ())) (fun (y0 : Int) => K .ret (stOf (T := T) [4] [] [.one (.int .i64)] [] (y0, ()) ())) (fun z0 z1 => J (z0, z1)) c x.1 x.2
def laws_heldIntSS_2_sp (n : Nat) : LSpec T := mkSpec T ⟨[], [0, 1, 5], []⟩ laws_heldIntSS_2_sv laws_heldIntSS_2_so (List (List Int)) (Int × Int) laws_heldIntSS_2_emb laws_heldIntSS_2_prj (laws_heldIntSS_2_b n)
noncomputable def laws_heldIntSS_2_c : Code := ((loopCodes laws_heldIntSS_code)[0]?).getD .skip
def laws_heldIntSS_ann : Ann := fun id => bif Nat.beq id 3000002 then some ⟨[], [1], []⟩ else bif Nat.beq id 2000002 then some ⟨[], [4], []⟩ else none
def laws_heldIntSS_Ls (n : Nat) : Nat → Option (LSpec T) := fun id => bif Nat.beq id 2 then some (laws_heldIntSS_2_sp n) else none
theorem laws_heldIntSS_2_le (n : Nat) : LoopEq (T := T) (Phi n 33) (laws_heldIntSS_Ls n) laws_heldIntSS_ann n laws_heldIntSS_2_c (laws_heldIntSS_2_sp n) := ⟨mkSpec_dec (fun y => rfl), fun c x => by kernel_rfl, fun K J c x => by kernel_rfl⟩
theorem laws_heldIntSS_tie (n : Nat) (a0 : List (List Int)) (k1 : Int) : evF (T := T) (Phi n 33) (laws_heldIntSS_Ls n) laws_heldIntSS_ann n Try.f109 (sg 109) [vA T 24 a0, vA T 3 k1] laws_heldIntSS_dec = laws_heldIntSS n a0 k1 := by kernel_rfl
theorem laws_heldIntSS_lo (n : Nat) : LoopsOk (T := T) (Phi n 33) (laws_heldIntSS_Ls n) laws_heldIntSS_ann n laws_heldIntSS_code := loopsOk_all (cs := [laws_heldIntSS_2_c]) (by kernel_rfl) ⟨⟨_, by kernel_rfl, laws_heldIntSS_2_le n⟩, trivial⟩
theorem laws_heldIntSS_ok (n : Nat) : EntOk Try.prog (ents n) (laws_heldIntSS_ent n) := by
  intro hs ar y hg h
  replace h : laws_heldIntSS_D n ar = some y := h
  unfold laws_heldIntSS_D at h
  replace h := ocons_some h
  obtain ⟨a0, r0, rfl, h⟩ := h
  replace h := ocons_some h
  obtain ⟨a1, r1, rfl, h⟩ := h
  replace h := onil_some h
  obtain ⟨rfl, h⟩ := h
  obtain ⟨a0, qh0, h⟩ := obind_some h
  obtain ⟨k1, qh1, h⟩ := obind_some h
  rw [argV_eq ok qh0, argV_eq ok qh1]
  exact call_of (phiE_nat _ _) hs ok mixed Try.func109 (c := laws_heldIntSS_code) (by kernel_rfl) (laws_heldIntSS_lo n) (by kernel_rfl) (by kernel_rfl) (by kernel_rfl) laws_heldIntSS_de ((laws_heldIntSS_tie n a0 k1).trans h)
noncomputable def laws_heldHull_code : Code := match Try.f32.body with | some c => c | none => .skip
def laws_heldHull_ann : Ann := fun id => none
def laws_heldHull_Ls (n : Nat) : Nat → Option (LSpec T) := fun id => none
theorem laws_heldHull_tie (n : Nat) (a0 : SHull) (k1 : Int) : evF (T := T) (Phi n 34) (laws_heldHull_Ls n) laws_heldHull_ann n Try.f32 (sg 32) [vA T 26 a0, vA T 3 k1] laws_heldHull_dec = laws_heldHull n a0 k1 := by kernel_rfl
theorem laws_heldHull_lo (n : Nat) : LoopsOk (T := T) (Phi n 34) (laws_heldHull_Ls n) laws_heldHull_ann n laws_heldHull_code := loopsOk_all (cs := []) (by kernel_rfl) trivial
theorem laws_heldHull_ok (n : Nat) : EntOk Try.prog (ents n) (laws_heldHull_ent n) := by
  intro hs ar y hg h
  replace h : laws_heldHull_D n ar = some y := h
  unfold laws_heldHull_D at h
  replace h := ocons_some h
  obtain ⟨a0, r0, rfl, h⟩ := h
  replace h := ocons_some h
  obtain ⟨a1, r1, rfl, h⟩ := h
  replace h := onil_some h
  obtain ⟨rfl, h⟩ := h
  obtain ⟨a0, qh0, h⟩ := obind_some h
  obtain ⟨k1, qh1, h⟩ := obind_some h
  rw [argV_eq ok qh0, argV_eq ok qh1]
  exact call_of (phiE_nat _ _) hs ok mixed Try.func32 (c := laws_heldHull_code) (by kernel_rfl) (laws_heldHull_lo n) (by kernel_rfl) (by kernel_rfl) (by kernel_rfl) laws_heldHull_de ((laws_heldHull_tie n a0 k1).trans h)
noncomputable def laws_FnExactFlood_code : Code := match Try.f4.body with | some c => c | none => .skip
def laws_FnExactFlood_ann : Ann := fun id => none
def laws_FnExactFlood_Ls (n : Nat) : Nat → Option (LSpec T) := fun id => none
theorem laws_FnExactFlood_tie (n : Nat) (aH0 : SHull) (aRooms1 : List SRoom) : evF (T := T) (Phi n 35) (laws_FnExactFlood_Ls n) laws_FnExactFlood_ann n Try.f4 (sg 4) [vA T 43 aH0, vA T 44 aRooms1] laws_FnExactFlood_dec = laws_FnExactFlood n aH0 aRooms1 := by kernel_rfl
theorem laws_FnExactFlood_lo (n : Nat) : LoopsOk (T := T) (Phi n 35) (laws_FnExactFlood_Ls n) laws_FnExactFlood_ann n laws_FnExactFlood_code := loopsOk_all (cs := []) (by kernel_rfl) trivial
theorem laws_FnExactFlood_ok (n : Nat) : EntOk Try.prog (ents n) (laws_FnExactFlood_ent n) := by
  intro hs ar y hg h
  replace h : laws_FnExactFlood_D n ar = some y := h
  unfold laws_FnExactFlood_D at h
  replace h := ocons_some h
  obtain ⟨a0, r0, rfl, h⟩ := h
  replace h := ocons_some h
  obtain ⟨a1, r1, rfl, h⟩ := h
  replace h := onil_some h
  obtain ⟨rfl, h⟩ := h
  obtain ⟨aH0, qh0, h⟩ := obind_some h
  obtain ⟨aRooms1, qh1, h⟩ := obind_some h
  rw [argV_eq ok qh0, argV_eq ok qh1]
  exact call_of (phiE_nat _ _) hs ok mixed Try.func4 (c := laws_FnExactFlood_code) (by kernel_rfl) (laws_FnExactFlood_lo n) (by kernel_rfl) (by kernel_rfl) (by kernel_rfl) laws_FnExactFlood_de ((laws_FnExactFlood_tie n aH0 aRooms1).trans h)
theorem entsOk (n : Nat) : EntsOk Try.prog (ents n) (ents n) := ⟨laws_szIntS_ok n, laws_szIntSS_ok n, laws_szHull_ok n, laws_szRoomS_ok n, laws_toIntS_ok n, laws_toIntSS_ok n, laws_toHull_ok n, laws_toRoom_ok n, laws_toRoomS_ok n, spec_l1In_ok n, spec_HullOk_ok n, spec_RoomsOk_ok n, spec_Flood_ok n, impl_in_ok n, impl_all_1_ok n, slices_IndexFunc_int_int__impl_all_1_ok n, slices_ContainsFunc_int_int__impl_all_1_ok n, impl_all_ok n, impl_HullOk_ok n, impl_RoomsOk_ok n, impl_own_int_ok n, impl_own_int_f105_ok n, impl_Flood_ok n, laws_eqIntS_ok n, laws_eqIntSS_ok n, laws_eqHull_ok n, laws_eqRoom_ok n, laws_eqRoomS_ok n, laws_markIntS_ok n, laws_markIntSS_ok n, laws_markHull_ok n, laws_markRoomS_ok n, laws_heldIntS_ok n, laws_heldIntSS_ok n, laws_heldHull_ok n, laws_FnExactFlood_ok n, trivial⟩
theorem sem (n i : Nat) : SemOk (Phi n i) (CallOk Try.prog T) := phiE_ok (entsOk n) i
end Go.Sm.B4
