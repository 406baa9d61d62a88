import Derived.Test.YtojjoinjabogbaaA14Tb
import Derived.KernelRfl
/- Each function's code computes what the plain function computes. -/
set_option linter.unusedSimpArgs false
set_option linter.deprecated false
set_option linter.unusedSectionVars false
set_option linter.unusedVariables false
set_option maxRecDepth 100000
open Go Go.Proofs
noncomputable section
namespace Go.Sm.A14
/-- By recursors, and of a greater height than all of the functions: the kernel takes these apart first. -/
def obind {α β : Type} (o : Option α) (f : α → Option β) : Option β := let _ := @laws_FnExactSettle; Option.rec (motive := fun _ => Option β) none (fun a => f a) o
theorem obind_some {α β : Type} {o : Option α} {f : α → Option β} {y : β} (h : obind o f = some y) : ∃ a, o = some a ∧ f a = some y := by
  cases o with
  | none => cases h
  | some a => exact ⟨a, rfl, h⟩
def ocons {β : Type} (l : List (A T)) (f : A T → List (A T) → Option β) : Option β := let _ := @laws_FnExactSettle; List.rec (motive := fun _ => Option β) none (fun a r _ => f a r) l
theorem ocons_some {β : Type} {l : List (A T)} {f : A T → List (A T) → Option β} {y : β} (h : ocons l f = some y) : ∃ a r, l = a :: r ∧ f a r = some y := by
  cases l with
  | nil => cases h
  | cons a r => exact ⟨a, r, rfl, h⟩
def onil {β : Type} (l : List (A T)) (x : Option β) : Option β := let _ := @laws_FnExactSettle; List.rec (motive := fun _ => Option β) x (fun _ _ _ => none) l
theorem onil_some {β : Type} {l : List (A T)} {x : Option β} {y : β} (h : onil l x = some y) : l = [] ∧ x = some y := by
  cases l with
  | nil => exact ⟨rfl, h⟩
  | cons a r => cases h
def laws_szIntS_dec (res : Res T) : Option Int := match res.rets, res.outs with
  | [a0], [] => (retV (T := T) 3 a0).bind fun r0 => some (r0)
  | _, _ => none
def laws_szIntS_enc (y : Int) : Res T := ⟨[vR T 3 y], []⟩
theorem laws_szIntS_de (res : Res T) (y : Int) (h : laws_szIntS_dec res = some y) : res = laws_szIntS_enc y := by
  obtain ⟨rets, outs⟩ := res
  unfold laws_szIntS_dec at h
  dsimp only at h
  split at h
  · obtain ⟨r0, h0, h⟩ := Option.bind_eq_some_iff.1 h
    cases h
    rw [retV_eq ok h0]
    rfl
  · cases h
def laws_szRadio_dec (res : Res T) : Option Int := match res.rets, res.outs with
  | [a0], [] => (retV (T := T) 3 a0).bind fun r0 => some (r0)
  | _, _ => none
def laws_szRadio_enc (y : Int) : Res T := ⟨[vR T 3 y], []⟩
theorem laws_szRadio_de (res : Res T) (y : Int) (h : laws_szRadio_dec res = some y) : res = laws_szRadio_enc y := by
  obtain ⟨rets, outs⟩ := res
  unfold laws_szRadio_dec at h
  dsimp only at h
  split at h
  · obtain ⟨r0, h0, h⟩ := Option.bind_eq_some_iff.1 h
    cases h
    rw [retV_eq ok h0]
    rfl
  · cases h
def laws_szRadioS_dec (res : Res T) : Option Int := match res.rets, res.outs with
  | [a0], [] => (retV (T := T) 3 a0).bind fun r0 => some (r0)
  | _, _ => none
def laws_szRadioS_enc (y : Int) : Res T := ⟨[vR T 3 y], []⟩
theorem laws_szRadioS_de (res : Res T) (y : Int) (h : laws_szRadioS_dec res = some y) : res = laws_szRadioS_enc y := by
  obtain ⟨rets, outs⟩ := res
  unfold laws_szRadioS_dec at h
  dsimp only at h
  split at h
  · obtain ⟨r0, h0, h⟩ := Option.bind_eq_some_iff.1 h
    cases h
    rw [retV_eq ok h0]
    rfl
  · cases h
def laws_toIntS_dec (res : Res T) : Option (List Int) := match res.rets, res.outs with
  | [a0], [] => (retV (T := T) 24 a0).bind fun r0 => some (r0)
  | _, _ => none
def laws_toIntS_enc (y : List Int) : Res T := ⟨[vR T 24 y], []⟩
theorem laws_toIntS_de (res : Res T) (y : List Int) (h : laws_toIntS_dec res = some y) : res = laws_toIntS_enc y := by
  obtain ⟨rets, outs⟩ := res
  unfold laws_toIntS_dec at h
  dsimp only at h
  split at h
  · obtain ⟨r0, h0, h⟩ := Option.bind_eq_some_iff.1 h
    cases h
    rw [retV_eq ok h0]
    rfl
  · cases h
def laws_toRadio_dec (res : Res T) : Option SRadio := match res.rets, res.outs with
  | [a0], [] => (retV (T := T) 250 a0).bind fun r0 => some (r0)
  | _, _ => none
def laws_toRadio_enc (y : SRadio) : Res T := ⟨[vR T 250 y], []⟩
theorem laws_toRadio_de (res : Res T) (y : SRadio) (h : laws_toRadio_dec res = some y) : res = laws_toRadio_enc y := by
  obtain ⟨rets, outs⟩ := res
  unfold laws_toRadio_dec at h
  dsimp only at h
  split at h
  · obtain ⟨r0, h0, h⟩ := Option.bind_eq_some_iff.1 h
    cases h
    rw [retV_eq ok h0]
    rfl
  · cases h
def laws_toRadioS_dec (res : Res T) : Option (List SRadio) := match res.rets, res.outs with
  | [a0], [] => (retV (T := T) 136 a0).bind fun r0 => some (r0)
  | _, _ => none
def laws_toRadioS_enc (y : List SRadio) : Res T := ⟨[vR T 136 y], []⟩
theorem laws_toRadioS_de (res : Res T) (y : List SRadio) (h : laws_toRadioS_dec res = some y) : res = laws_toRadioS_enc y := by
  obtain ⟨rets, outs⟩ := res
  unfold laws_toRadioS_dec at h
  dsimp only at h
  split at h
  · obtain ⟨r0, h0, h⟩ := Option.bind_eq_some_iff.1 h
    cases h
    rw [retV_eq ok h0]
    rfl
  · cases h
def spec_l1In_dec (res : Res T) : Option Bool := match res.rets, res.outs with
  | [a0], [] => (retV (T := T) 4 a0).bind fun r0 => some (r0)
  | _, _ => none
def spec_l1In_enc (y : Bool) : Res T := ⟨[vR T 4 y], []⟩
theorem spec_l1In_de (res : Res T) (y : Bool) (h : spec_l1In_dec res = some y) : res = spec_l1In_enc y := by
  obtain ⟨rets, outs⟩ := res
  unfold spec_l1In_dec at h
  dsimp only at h
  split at h
  · obtain ⟨r0, h0, h⟩ := Option.bind_eq_some_iff.1 h
    cases h
    rw [retV_eq ok h0]
    rfl
  · cases h
def spec_l9Has_dec (res : Res T) : Option Bool := match res.rets, res.outs with
  | [a0], [] => (retV (T := T) 4 a0).bind fun r0 => some (r0)
  | _, _ => none
def spec_l9Has_enc (y : Bool) : Res T := ⟨[vR T 4 y], []⟩
theorem spec_l9Has_de (res : Res T) (y : Bool) (h : spec_l9Has_dec res = some y) : res = spec_l9Has_enc y := by
  obtain ⟨rets, outs⟩ := res
  unfold spec_l9Has_dec at h
  dsimp only at h
  split at h
  · obtain ⟨r0, h0, h⟩ := Option.bind_eq_some_iff.1 h
    cases h
    rw [retV_eq ok h0]
    rfl
  · cases h
def spec_RadiosOk_dec (res : Res T) : Option Bool := match res.rets, res.outs with
  | [a0], [] => (retV (T := T) 4 a0).bind fun r0 => some (r0)
  | _, _ => none
def spec_RadiosOk_enc (y : Bool) : Res T := ⟨[vR T 4 y], []⟩
theorem spec_RadiosOk_de (res : Res T) (y : Bool) (h : spec_RadiosOk_dec res = some y) : res = spec_RadiosOk_enc y := by
  obtain ⟨rets, outs⟩ := res
  unfold spec_RadiosOk_dec at h
  dsimp only at h
  split at h
  · obtain ⟨r0, h0, h⟩ := Option.bind_eq_some_iff.1 h
    cases h
    rw [retV_eq ok h0]
    rfl
  · cases h
def spec_l3All_dec (res : Res T) : Option Bool := match res.rets, res.outs with
  | [a0], [] => (retV (T := T) 4 a0).bind fun r0 => some (r0)
  | _, _ => none
def spec_l3All_enc (y : Bool) : Res T := ⟨[vR T 4 y], []⟩
theorem spec_l3All_de (res : Res T) (y : Bool) (h : spec_l3All_dec res = some y) : res = spec_l3All_enc y := by
  obtain ⟨rets, outs⟩ := res
  unfold spec_l3All_dec at h
  dsimp only at h
  split at h
  · obtain ⟨r0, h0, h⟩ := Option.bind_eq_some_iff.1 h
    cases h
    rw [retV_eq ok h0]
    rfl
  · cases h
def spec_l9Copy_dec (res : Res T) : Option (List SRadio) := match res.rets, res.outs with
  | [a0], [] => (retV (T := T) 136 a0).bind fun r0 => some (r0)
  | _, _ => none
def spec_l9Copy_enc (y : List SRadio) : Res T := ⟨[vR T 136 y], []⟩
theorem spec_l9Copy_de (res : Res T) (y : List SRadio) (h : spec_l9Copy_dec res = some y) : res = spec_l9Copy_enc y := by
  obtain ⟨rets, outs⟩ := res
  unfold spec_l9Copy_dec at h
  dsimp only at h
  split at h
  · obtain ⟨r0, h0, h⟩ := Option.bind_eq_some_iff.1 h
    cases h
    rw [retV_eq ok h0]
    rfl
  · cases h
def spec_Clashes_dec (res : Res T) : Option (List Int) := match res.rets, res.outs with
  | [a0], [] => (retV (T := T) 24 a0).bind fun r0 => some (r0)
  | _, _ => none
def spec_Clashes_enc (y : List Int) : Res T := ⟨[vR T 24 y], []⟩
theorem spec_Clashes_de (res : Res T) (y : List Int) (h : spec_Clashes_dec res = some y) : res = spec_Clashes_enc y := by
  obtain ⟨rets, outs⟩ := res
  unfold spec_Clashes_dec at h
  dsimp only at h
  split at h
  · obtain ⟨r0, h0, h⟩ := Option.bind_eq_some_iff.1 h
    cases h
    rw [retV_eq ok h0]
    rfl
  · cases h
def spec_Choose_dec (res : Res T) : Option (Int × Bool) := match res.rets, res.outs with
  | [a0, a1], [] => (retV (T := T) 3 a0).bind fun r0 => (retV (T := T) 4 a1).bind fun r1 => some (r0, r1)
  | _, _ => none
def spec_Choose_enc (y : Int × Bool) : Res T := ⟨[vR T 3 y.1, vR T 4 y.2], []⟩
theorem spec_Choose_de (res : Res T) (y : Int × Bool) (h : spec_Choose_dec res = some y) : res = spec_Choose_enc y := by
  obtain ⟨rets, outs⟩ := res
  unfold spec_Choose_dec at h
  dsimp only at h
  split at h
  · obtain ⟨r0, h0, h⟩ := Option.bind_eq_some_iff.1 h
    obtain ⟨r1, h1, h⟩ := Option.bind_eq_some_iff.1 h
    cases h
    rw [retV_eq ok h0, retV_eq ok h1]
    rfl
  · cases h
def spec_Settle_dec (res : Res T) : Option (List SRadio × Int × Bool) := match res.rets, res.outs with
  | [a0, a1, a2], [] => (retV (T := T) 136 a0).bind fun r0 => (retV (T := T) 3 a1).bind fun r1 => (retV (T := T) 4 a2).bind fun r2 => some (r0, r1, r2)
  | _, _ => none
def spec_Settle_enc (y : List SRadio × Int × Bool) : Res T := ⟨[vR T 136 y.1, vR T 3 y.2.1, vR T 4 y.2.2], []⟩
theorem spec_Settle_de (res : Res T) (y : List SRadio × Int × Bool) (h : spec_Settle_dec res = some y) : res = spec_Settle_enc y := by
  obtain ⟨rets, outs⟩ := res
  unfold spec_Settle_dec at h
  dsimp only at h
  split at h
  · obtain ⟨r0, h0, h⟩ := Option.bind_eq_some_iff.1 h
    obtain ⟨r1, h1, h⟩ := Option.bind_eq_some_iff.1 h
    obtain ⟨r2, h2, h⟩ := Option.bind_eq_some_iff.1 h
    cases h
    rw [retV_eq ok h0, retV_eq ok h1, retV_eq ok h2]
    rfl
  · cases h
def impl_in_dec (res : Res T) : Option Bool := match res.rets, res.outs with
  | [a0], [] => (retV (T := T) 4 a0).bind fun r0 => some (r0)
  | _, _ => none
def impl_in_enc (y : Bool) : Res T := ⟨[vR T 4 y], []⟩
theorem impl_in_de (res : Res T) (y : Bool) (h : impl_in_dec res = some y) : res = impl_in_enc y := by
  obtain ⟨rets, outs⟩ := res
  unfold impl_in_dec at h
  dsimp only at h
  split at h
  · obtain ⟨r0, h0, h⟩ := Option.bind_eq_some_iff.1 h
    cases h
    rw [retV_eq ok h0]
    rfl
  · cases h
def impl_idOk_dec (res : Res T) : Option Bool := match res.rets, res.outs with
  | [a0], [] => (retV (T := T) 4 a0).bind fun r0 => some (r0)
  | _, _ => none
def impl_idOk_enc (y : Bool) : Res T := ⟨[vR T 4 y], []⟩
theorem impl_idOk_de (res : Res T) (y : Bool) (h : impl_idOk_dec res = some y) : res = impl_idOk_enc y := by
  obtain ⟨rets, outs⟩ := res
  unfold impl_idOk_dec at h
  dsimp only at h
  split at h
  · obtain ⟨r0, h0, h⟩ := Option.bind_eq_some_iff.1 h
    cases h
    rw [retV_eq ok h0]
    rfl
  · cases h
def impl_slotOk_dec (res : Res T) : Option Bool := match res.rets, res.outs with
  | [a0], [] => (retV (T := T) 4 a0).bind fun r0 => some (r0)
  | _, _ => none
def impl_slotOk_enc (y : Bool) : Res T := ⟨[vR T 4 y], []⟩
theorem impl_slotOk_de (res : Res T) (y : Bool) (h : impl_slotOk_dec res = some y) : res = impl_slotOk_enc y := by
  obtain ⟨rets, outs⟩ := res
  unfold impl_slotOk_dec at h
  dsimp only at h
  split at h
  · obtain ⟨r0, h0, h⟩ := Option.bind_eq_some_iff.1 h
    cases h
    rw [retV_eq ok h0]
    rfl
  · cases h
def slices_Index_int_int_dec (res : Res T) : Option Int := match res.rets, res.outs with
  | [a0], [] => (retV (T := T) 3 a0).bind fun r0 => some (r0)
  | _, _ => none
def slices_Index_int_int_enc (y : Int) : Res T := ⟨[vR T 3 y], []⟩
theorem slices_Index_int_int_de (res : Res T) (y : Int) (h : slices_Index_int_int_dec res = some y) : res = slices_Index_int_int_enc y := by
  obtain ⟨rets, outs⟩ := res
  unfold slices_Index_int_int_dec at h
  dsimp only at h
  split at h
  · obtain ⟨r0, h0, h⟩ := Option.bind_eq_some_iff.1 h
    cases h
    rw [retV_eq ok h0]
    rfl
  · cases h
def slices_Contains_int_int_dec (res : Res T) : Option Bool := match res.rets, res.outs with
  | [a0], [] => (retV (T := T) 4 a0).bind fun r0 => some (r0)
  | _, _ => none
def slices_Contains_int_int_enc (y : Bool) : Res T := ⟨[vR T 4 y], []⟩
theorem slices_Contains_int_int_de (res : Res T) (y : Bool) (h : slices_Contains_int_int_dec res = some y) : res = slices_Contains_int_int_enc y := by
  obtain ⟨rets, outs⟩ := res
  unfold slices_Contains_int_int_dec at h
  dsimp only at h
  split at h
  · obtain ⟨r0, h0, h⟩ := Option.bind_eq_some_iff.1 h
    cases h
    rw [retV_eq ok h0]
    rfl
  · cases h
def impl_RadiosOk_dec (res : Res T) : Option Bool := match res.rets, res.outs with
  | [a0], [] => (retV (T := T) 4 a0).bind fun r0 => some (r0)
  | _, _ => none
def impl_RadiosOk_enc (y : Bool) : Res T := ⟨[vR T 4 y], []⟩
theorem impl_RadiosOk_de (res : Res T) (y : Bool) (h : impl_RadiosOk_dec res = some y) : res = impl_RadiosOk_enc y := by
  obtain ⟨rets, outs⟩ := res
  unfold impl_RadiosOk_dec at h
  dsimp only at h
  split at h
  · obtain ⟨r0, h0, h⟩ := Option.bind_eq_some_iff.1 h
    cases h
    rw [retV_eq ok h0]
    rfl
  · cases h
def impl_Settle_1_dec (res : Res T) : Option Bool := match res.rets, res.outs with
  | [a0], [] => (retV (T := T) 4 a0).bind fun r0 => some (r0)
  | _, _ => none
def impl_Settle_1_enc (y : Bool) : Res T := ⟨[vR T 4 y], []⟩
theorem impl_Settle_1_de (res : Res T) (y : Bool) (h : impl_Settle_1_dec res = some y) : res = impl_Settle_1_enc y := by
  obtain ⟨rets, outs⟩ := res
  unfold impl_Settle_1_dec at h
  dsimp only at h
  split at h
  · obtain ⟨r0, h0, h⟩ := Option.bind_eq_some_iff.1 h
    cases h
    rw [retV_eq ok h0]
    rfl
  · cases h
def slices_IndexFunc_int_int__impl_Settle_1_dec (res : Res T) : Option Int := match res.rets, res.outs with
  | [a0], [] => (retV (T := T) 3 a0).bind fun r0 => some (r0)
  | _, _ => none
def slices_IndexFunc_int_int__impl_Settle_1_enc (y : Int) : Res T := ⟨[vR T 3 y], []⟩
theorem slices_IndexFunc_int_int__impl_Settle_1_de (res : Res T) (y : Int) (h : slices_IndexFunc_int_int__impl_Settle_1_dec res = some y) : res = slices_IndexFunc_int_int__impl_Settle_1_enc y := by
  obtain ⟨rets, outs⟩ := res
  unfold slices_IndexFunc_int_int__impl_Settle_1_dec at h
  dsimp only at h
  split at h
  · obtain ⟨r0, h0, h⟩ := Option.bind_eq_some_iff.1 h
    cases h
    rw [retV_eq ok h0]
    rfl
  · cases h
def slices_ContainsFunc_int_int__impl_Settle_1_dec (res : Res T) : Option Bool := match res.rets, res.outs with
  | [a0], [] => (retV (T := T) 4 a0).bind fun r0 => some (r0)
  | _, _ => none
def slices_ContainsFunc_int_int__impl_Settle_1_enc (y : Bool) : Res T := ⟨[vR T 4 y], []⟩
theorem slices_ContainsFunc_int_int__impl_Settle_1_de (res : Res T) (y : Bool) (h : slices_ContainsFunc_int_int__impl_Settle_1_dec res = some y) : res = slices_ContainsFunc_int_int__impl_Settle_1_enc y := by
  obtain ⟨rets, outs⟩ := res
  unfold slices_ContainsFunc_int_int__impl_Settle_1_dec at h
  dsimp only at h
  split at h
  · obtain ⟨r0, h0, h⟩ := Option.bind_eq_some_iff.1 h
    cases h
    rw [retV_eq ok h0]
    rfl
  · cases h
def impl_own_impl_Radio_dec (res : Res T) : Option (List SRadio) := match res.rets, res.outs with
  | [a0], [] => (retV (T := T) 136 a0).bind fun r0 => some (r0)
  | _, _ => none
def impl_own_impl_Radio_enc (y : List SRadio) : Res T := ⟨[vR T 136 y], []⟩
theorem impl_own_impl_Radio_de (res : Res T) (y : List SRadio) (h : impl_own_impl_Radio_dec res = some y) : res = impl_own_impl_Radio_enc y := by
  obtain ⟨rets, outs⟩ := res
  unfold impl_own_impl_Radio_dec at h
  dsimp only at h
  split at h
  · obtain ⟨r0, h0, h⟩ := Option.bind_eq_some_iff.1 h
    cases h
    rw [retV_eq ok h0]
    rfl
  · cases h
def impl_own_int_dec (res : Res T) : Option (List Int) := match res.rets, res.outs with
  | [a0], [] => (retV (T := T) 24 a0).bind fun r0 => some (r0)
  | _, _ => none
def impl_own_int_enc (y : List Int) : Res T := ⟨[vR T 24 y], []⟩
theorem impl_own_int_de (res : Res T) (y : List Int) (h : impl_own_int_dec res = some y) : res = impl_own_int_enc y := by
  obtain ⟨rets, outs⟩ := res
  unfold impl_own_int_dec at h
  dsimp only at h
  split at h
  · obtain ⟨r0, h0, h⟩ := Option.bind_eq_some_iff.1 h
    cases h
    rw [retV_eq ok h0]
    rfl
  · cases h
def impl_Clashes_1_dec (res : Res T) : Option Bool := match res.rets, res.outs with
  | [a0], [] => (retV (T := T) 4 a0).bind fun r0 => some (r0)
  | _, _ => none
def impl_Clashes_1_enc (y : Bool) : Res T := ⟨[vR T 4 y], []⟩
theorem impl_Clashes_1_de (res : Res T) (y : Bool) (h : impl_Clashes_1_dec res = some y) : res = impl_Clashes_1_enc y := by
  obtain ⟨rets, outs⟩ := res
  unfold impl_Clashes_1_dec at h
  dsimp only at h
  split at h
  · obtain ⟨r0, h0, h⟩ := Option.bind_eq_some_iff.1 h
    cases h
    rw [retV_eq ok h0]
    rfl
  · cases h
def slices_IndexFunc_int_int__impl_Clashes_1_dec (res : Res T) : Option Int := match res.rets, res.outs with
  | [a0], [] => (retV (T := T) 3 a0).bind fun r0 => some (r0)
  | _, _ => none
def slices_IndexFunc_int_int__impl_Clashes_1_enc (y : Int) : Res T := ⟨[vR T 3 y], []⟩
theorem slices_IndexFunc_int_int__impl_Clashes_1_de (res : Res T) (y : Int) (h : slices_IndexFunc_int_int__impl_Clashes_1_dec res = some y) : res = slices_IndexFunc_int_int__impl_Clashes_1_enc y := by
  obtain ⟨rets, outs⟩ := res
  unfold slices_IndexFunc_int_int__impl_Clashes_1_dec at h
  dsimp only at h
  split at h
  · obtain ⟨r0, h0, h⟩ := Option.bind_eq_some_iff.1 h
    cases h
    rw [retV_eq ok h0]
    rfl
  · cases h
def slices_ContainsFunc_int_int__impl_Clashes_1_dec (res : Res T) : Option Bool := match res.rets, res.outs with
  | [a0], [] => (retV (T := T) 4 a0).bind fun r0 => some (r0)
  | _, _ => none
def slices_ContainsFunc_int_int__impl_Clashes_1_enc (y : Bool) : Res T := ⟨[vR T 4 y], []⟩
theorem slices_ContainsFunc_int_int__impl_Clashes_1_de (res : Res T) (y : Bool) (h : slices_ContainsFunc_int_int__impl_Clashes_1_dec res = some y) : res = slices_ContainsFunc_int_int__impl_Clashes_1_enc y := by
  obtain ⟨rets, outs⟩ := res
  unfold slices_ContainsFunc_int_int__impl_Clashes_1_dec at h
  dsimp only at h
  split at h
  · obtain ⟨r0, h0, h⟩ := Option.bind_eq_some_iff.1 h
    cases h
    rw [retV_eq ok h0]
    rfl
  · cases h
def impl_Clashes_dec (res : Res T) : Option (List Int) := match res.rets, res.outs with
  | [a0], [] => (retV (T := T) 24 a0).bind fun r0 => some (r0)
  | _, _ => none
def impl_Clashes_enc (y : List Int) : Res T := ⟨[vR T 24 y], []⟩
theorem impl_Clashes_de (res : Res T) (y : List Int) (h : impl_Clashes_dec res = some y) : res = impl_Clashes_enc y := by
  obtain ⟨rets, outs⟩ := res
  unfold impl_Clashes_dec at h
  dsimp only at h
  split at h
  · obtain ⟨r0, h0, h⟩ := Option.bind_eq_some_iff.1 h
    cases h
    rw [retV_eq ok h0]
    rfl
  · cases h
def impl_Choose_1_dec (res : Res T) : Option Bool := match res.rets, res.outs with
  | [a0], [] => (retV (T := T) 4 a0).bind fun r0 => some (r0)
  | _, _ => none
def impl_Choose_1_enc (y : Bool) : Res T := ⟨[vR T 4 y], []⟩
theorem impl_Choose_1_de (res : Res T) (y : Bool) (h : impl_Choose_1_dec res = some y) : res = impl_Choose_1_enc y := by
  obtain ⟨rets, outs⟩ := res
  unfold impl_Choose_1_dec at h
  dsimp only at h
  split at h
  · obtain ⟨r0, h0, h⟩ := Option.bind_eq_some_iff.1 h
    cases h
    rw [retV_eq ok h0]
    rfl
  · cases h
def slices_IndexFunc_int_int__impl_Choose_1_dec (res : Res T) : Option Int := match res.rets, res.outs with
  | [a0], [] => (retV (T := T) 3 a0).bind fun r0 => some (r0)
  | _, _ => none
def slices_IndexFunc_int_int__impl_Choose_1_enc (y : Int) : Res T := ⟨[vR T 3 y], []⟩
theorem slices_IndexFunc_int_int__impl_Choose_1_de (res : Res T) (y : Int) (h : slices_IndexFunc_int_int__impl_Choose_1_dec res = some y) : res = slices_IndexFunc_int_int__impl_Choose_1_enc y := by
  obtain ⟨rets, outs⟩ := res
  unfold slices_IndexFunc_int_int__impl_Choose_1_dec at h
  dsimp only at h
  split at h
  · obtain ⟨r0, h0, h⟩ := Option.bind_eq_some_iff.1 h
    cases h
    rw [retV_eq ok h0]
    rfl
  · cases h
def slices_ContainsFunc_int_int__impl_Choose_1_dec (res : Res T) : Option Bool := match res.rets, res.outs with
  | [a0], [] => (retV (T := T) 4 a0).bind fun r0 => some (r0)
  | _, _ => none
def slices_ContainsFunc_int_int__impl_Choose_1_enc (y : Bool) : Res T := ⟨[vR T 4 y], []⟩
theorem slices_ContainsFunc_int_int__impl_Choose_1_de (res : Res T) (y : Bool) (h : slices_ContainsFunc_int_int__impl_Choose_1_dec res = some y) : res = slices_ContainsFunc_int_int__impl_Choose_1_enc y := by
  obtain ⟨rets, outs⟩ := res
  unfold slices_ContainsFunc_int_int__impl_Choose_1_dec at h
  dsimp only at h
  split at h
  · obtain ⟨r0, h0, h⟩ := Option.bind_eq_some_iff.1 h
    cases h
    rw [retV_eq ok h0]
    rfl
  · cases h
def impl_Choose_dec (res : Res T) : Option (Int × Bool) := match res.rets, res.outs with
  | [a0, a1], [] => (retV (T := T) 3 a0).bind fun r0 => (retV (T := T) 4 a1).bind fun r1 => some (r0, r1)
  | _, _ => none
def impl_Choose_enc (y : Int × Bool) : Res T := ⟨[vR T 3 y.1, vR T 4 y.2], []⟩
theorem impl_Choose_de (res : Res T) (y : Int × Bool) (h : impl_Choose_dec res = some y) : res = impl_Choose_enc y := by
  obtain ⟨rets, outs⟩ := res
  unfold impl_Choose_dec at h
  dsimp only at h
  split at h
  · obtain ⟨r0, h0, h⟩ := Option.bind_eq_some_iff.1 h
    obtain ⟨r1, h1, h⟩ := Option.bind_eq_some_iff.1 h
    cases h
    rw [retV_eq ok h0, retV_eq ok h1]
    rfl
  · cases h
def impl_Settle_dec (res : Res T) : Option (List SRadio × Int × Bool) := match res.rets, res.outs with
  | [a0, a1, a2], [] => (retV (T := T) 136 a0).bind fun r0 => (retV (T := T) 3 a1).bind fun r1 => (retV (T := T) 4 a2).bind fun r2 => some (r0, r1, r2)
  | _, _ => none
def impl_Settle_enc (y : List SRadio × Int × Bool) : Res T := ⟨[vR T 136 y.1, vR T 3 y.2.1, vR T 4 y.2.2], []⟩
theorem impl_Settle_de (res : Res T) (y : List SRadio × Int × Bool) (h : impl_Settle_dec res = some y) : res = impl_Settle_enc y := by
  obtain ⟨rets, outs⟩ := res
  unfold impl_Settle_dec at h
  dsimp only at h
  split at h
  · obtain ⟨r0, h0, h⟩ := Option.bind_eq_some_iff.1 h
    obtain ⟨r1, h1, h⟩ := Option.bind_eq_some_iff.1 h
    obtain ⟨r2, h2, h⟩ := Option.bind_eq_some_iff.1 h
    cases h
    rw [retV_eq ok h0, retV_eq ok h1, retV_eq ok h2]
    rfl
  · cases h
def laws_eqIntS_dec (res : Res T) : Option Bool := match res.rets, res.outs with
  | [a0], [] => (retV (T := T) 4 a0).bind fun r0 => some (r0)
  | _, _ => none
def laws_eqIntS_enc (y : Bool) : Res T := ⟨[vR T 4 y], []⟩
theorem laws_eqIntS_de (res : Res T) (y : Bool) (h : laws_eqIntS_dec res = some y) : res = laws_eqIntS_enc y := by
  obtain ⟨rets, outs⟩ := res
  unfold laws_eqIntS_dec at h
  dsimp only at h
  split at h
  · obtain ⟨r0, h0, h⟩ := Option.bind_eq_some_iff.1 h
    cases h
    rw [retV_eq ok h0]
    rfl
  · cases h
def laws_eqRadio_dec (res : Res T) : Option Bool := match res.rets, res.outs with
  | [a0], [] => (retV (T := T) 4 a0).bind fun r0 => some (r0)
  | _, _ => none
def laws_eqRadio_enc (y : Bool) : Res T := ⟨[vR T 4 y], []⟩
theorem laws_eqRadio_de (res : Res T) (y : Bool) (h : laws_eqRadio_dec res = some y) : res = laws_eqRadio_enc y := by
  obtain ⟨rets, outs⟩ := res
  unfold laws_eqRadio_dec at h
  dsimp only at h
  split at h
  · obtain ⟨r0, h0, h⟩ := Option.bind_eq_some_iff.1 h
    cases h
    rw [retV_eq ok h0]
    rfl
  · cases h
def laws_eqRadioS_dec (res : Res T) : Option Bool := match res.rets, res.outs with
  | [a0], [] => (retV (T := T) 4 a0).bind fun r0 => some (r0)
  | _, _ => none
def laws_eqRadioS_enc (y : Bool) : Res T := ⟨[vR T 4 y], []⟩
theorem laws_eqRadioS_de (res : Res T) (y : Bool) (h : laws_eqRadioS_dec res = some y) : res = laws_eqRadioS_enc y := by
  obtain ⟨rets, outs⟩ := res
  unfold laws_eqRadioS_dec at h
  dsimp only at h
  split at h
  · obtain ⟨r0, h0, h⟩ := Option.bind_eq_some_iff.1 h
    cases h
    rw [retV_eq ok h0]
    rfl
  · cases h
def laws_markIntS_dec (res : Res T) : Option (Int × List Int) := match res.rets, res.outs with
  | [a0], [b0] => (retV (T := T) 3 a0).bind fun r0 => (outS (T := T) 3 b0).bind fun r1 => some (r0, r1)
  | _, _ => none
def laws_markIntS_enc (y : Int × List Int) : Res T := ⟨[vR T 3 y.1], [.sl 3 y.2]⟩
theorem laws_markIntS_de (res : Res T) (y : Int × List Int) (h : laws_markIntS_dec res = some y) : res = laws_markIntS_enc y := by
  obtain ⟨rets, outs⟩ := res
  unfold laws_markIntS_dec at h
  dsimp only at h
  split at h
  · obtain ⟨r0, h0, h⟩ := Option.bind_eq_some_iff.1 h
    obtain ⟨r1, h1, h⟩ := Option.bind_eq_some_iff.1 h
    cases h
    rw [retV_eq ok h0, outS_eq h1]
    rfl
  · cases h
def laws_markRadioS_dec (res : Res T) : Option (Int × List SRadio) := match res.rets, res.outs with
  | [a0], [b0] => (retV (T := T) 3 a0).bind fun r0 => (outS (T := T) 250 b0).bind fun r1 => some (r0, r1)
  | _, _ => none
def laws_markRadioS_enc (y : Int × List SRadio) : Res T := ⟨[vR T 3 y.1], [.sl 250 y.2]⟩
theorem laws_markRadioS_de (res : Res T) (y : Int × List SRadio) (h : laws_markRadioS_dec res = some y) : res = laws_markRadioS_enc y := by
  obtain ⟨rets, outs⟩ := res
  unfold laws_markRadioS_dec at h
  dsimp only at h
  split at h
  · obtain ⟨r0, h0, h⟩ := Option.bind_eq_some_iff.1 h
    obtain ⟨r1, h1, h⟩ := Option.bind_eq_some_iff.1 h
    cases h
    rw [retV_eq ok h0, outS_eq h1]
    rfl
  · cases h
def laws_heldIntS_dec (res : Res T) : Option Int := match res.rets, res.outs with
  | [a0], [] => (retV (T := T) 3 a0).bind fun r0 => some (r0)
  | _, _ => none
def laws_heldIntS_enc (y : Int) : Res T := ⟨[vR T 3 y], []⟩
theorem laws_heldIntS_de (res : Res T) (y : Int) (h : laws_heldIntS_dec res = some y) : res = laws_heldIntS_enc y := by
  obtain ⟨rets, outs⟩ := res
  unfold laws_heldIntS_dec at h
  dsimp only at h
  split at h
  · obtain ⟨r0, h0, h⟩ := Option.bind_eq_some_iff.1 h
    cases h
    rw [retV_eq ok h0]
    rfl
  · cases h
def laws_heldRadioS_dec (res : Res T) : Option Int := match res.rets, res.outs with
  | [a0], [] => (retV (T := T) 3 a0).bind fun r0 => some (r0)
  | _, _ => none
def laws_heldRadioS_enc (y : Int) : Res T := ⟨[vR T 3 y], []⟩
theorem laws_heldRadioS_de (res : Res T) (y : Int) (h : laws_heldRadioS_dec res = some y) : res = laws_heldRadioS_enc y := by
  obtain ⟨rets, outs⟩ := res
  unfold laws_heldRadioS_dec at h
  dsimp only at h
  split at h
  · obtain ⟨r0, h0, h⟩ := Option.bind_eq_some_iff.1 h
    cases h
    rw [retV_eq ok h0]
    rfl
  · cases h
def laws_FnExactSettle_dec (res : Res T) : Option Bool := match res.rets, res.outs with
  | [a0], [] => (retV (T := T) 4 a0).bind fun r0 => some (r0)
  | _, _ => none
def laws_FnExactSettle_enc (y : Bool) : Res T := ⟨[vR T 4 y], []⟩
theorem laws_FnExactSettle_de (res : Res T) (y : Bool) (h : laws_FnExactSettle_dec res = some y) : res = laws_FnExactSettle_enc y := by
  obtain ⟨rets, outs⟩ := res
  unfold laws_FnExactSettle_dec at h
  dsimp only at h
  split at h
  · obtain ⟨r0, h0, h⟩ := Option.bind_eq_some_iff.1 h
    cases h
    rw [retV_eq ok h0]
    rfl
  · cases h
def laws_szIntS_D (n : Nat) (r0 : List (A T)) : Option Int := ocons r0 fun a0 r1 => ocons r1 fun a1 r2 => onil r2 (obind (argV (T := T) 24 a0) fun a0 => obind (argV (T := T) 3 a1) fun left1 => laws_szIntS n a0 left1)
def laws_szIntS_ent (n : Nat) : Ent T := ⟨242, 0, [], Int, laws_szIntS_D n, laws_szIntS_enc⟩
def laws_szRadio_D (n : Nat) (r0 : List (A T)) : Option Int := ocons r0 fun a0 r1 => ocons r1 fun a1 r2 => onil r2 (obind (argV (T := T) 243 a0) fun a0 => obind (argV (T := T) 3 a1) fun left1 => laws_szRadio n a0 left1)
def laws_szRadio_ent (n : Nat) : Ent T := ⟨193, 1, [], Int, laws_szRadio_D n, laws_szRadio_enc⟩
def laws_szRadioS_D (n : Nat) (r0 : List (A T)) : Option Int := ocons r0 fun a0 r1 => ocons r1 fun a1 r2 => onil r2 (obind (argV (T := T) 134 a0) fun a0 => obind (argV (T := T) 3 a1) fun left1 => laws_szRadioS n a0 left1)
def laws_szRadioS_ent (n : Nat) : Ent T := ⟨93, 2, [], Int, laws_szRadioS_D n, laws_szRadioS_enc⟩
def laws_toIntS_D (n : Nat) (r0 : List (A T)) : Option (List Int) := ocons r0 fun a0 r1 => onil r1 (obind (argV (T := T) 24 a0) fun a0 => laws_toIntS n a0)
def laws_toIntS_ent (n : Nat) : Ent T := ⟨27, 3, [], List Int, laws_toIntS_D n, laws_toIntS_enc⟩
def laws_toRadio_D (n : Nat) (r0 : List (A T)) : Option SRadio := ocons r0 fun a0 r1 => onil r1 (obind (argV (T := T) 243 a0) fun a0 => laws_toRadio n a0)
def laws_toRadio_ent (n : Nat) : Ent T := ⟨199, 4, [], SRadio, laws_toRadio_D n, laws_toRadio_enc⟩
def laws_toRadioS_D (n : Nat) (r0 : List (A T)) : Option (List SRadio) := ocons r0 fun a0 r1 => onil r1 (obind (argV (T := T) 134 a0) fun a0 => laws_toRadioS n a0)
def laws_toRadioS_ent (n : Nat) : Ent T := ⟨95, 5, [], List SRadio, laws_toRadioS_D n, laws_toRadioS_enc⟩
def spec_l1In_D (n : Nat) (r0 : List (A T)) : Option Bool := ocons r0 fun a0 r1 => ocons r1 fun a1 r2 => ocons r2 fun a2 r3 => onil r3 (obind (argV (T := T) 3 a0) fun x0 => obind (argV (T := T) 3 a1) fun a1 => obind (argV (T := T) 3 a2) fun b2 => spec_l1In n x0 a1 b2)
def spec_l1In_ent (n : Nat) : Ent T := ⟨101, 6, [], Bool, spec_l1In_D n, spec_l1In_enc⟩
def spec_l9Has_D (n : Nat) (r0 : List (A T)) : Option Bool := ocons r0 fun a0 r1 => ocons r1 fun a1 r2 => onil r2 (obind (argV (T := T) 24 a0) fun list0 => obind (argV (T := T) 3 a1) fun x1 => spec_l9Has n list0 x1)
def spec_l9Has_ent (n : Nat) : Ent T := ⟨243, 7, [], Bool, spec_l9Has_D n, spec_l9Has_enc⟩
def spec_RadiosOk_D (n : Nat) (r0 : List (A T)) : Option Bool := ocons r0 fun a0 r1 => onil r1 (obind (argV (T := T) 136 a0) fun list0 => spec_RadiosOk n list0)
def spec_RadiosOk_ent (n : Nat) : Ent T := ⟨194, 8, [], Bool, spec_RadiosOk_D n, spec_RadiosOk_enc⟩
def spec_l3All_D (n : Nat) (r0 : List (A T)) : Option Bool := ocons r0 fun a0 r1 => ocons r1 fun a1 r2 => ocons r2 fun a2 r3 => onil r3 (obind (argV (T := T) 24 a0) fun list0 => obind (argV (T := T) 3 a1) fun a1 => obind (argV (T := T) 3 a2) fun b2 => spec_l3All n list0 a1 b2)
def spec_l3All_ent (n : Nat) : Ent T := ⟨195, 9, [], Bool, spec_l3All_D n, spec_l3All_enc⟩
def spec_l9Copy_D (n : Nat) (r0 : List (A T)) : Option (List SRadio) := ocons r0 fun a0 r1 => onil r1 (obind (argV (T := T) 136 a0) fun list0 => spec_l9Copy n list0)
def spec_l9Copy_ent (n : Nat) : Ent T := ⟨196, 10, [], List SRadio, spec_l9Copy_D n, spec_l9Copy_enc⟩
def spec_Clashes_D (n : Nat) (r0 : List (A T)) : Option (List Int) := ocons r0 fun a0 r1 => onil r1 (obind (argV (T := T) 136 a0) fun list0 => spec_Clashes n list0)
def spec_Clashes_ent (n : Nat) : Ent T := ⟨197, 11, [], List Int, spec_Clashes_D n, spec_Clashes_enc⟩
def spec_Choose_D (n : Nat) (r0 : List (A T)) : Option (Int × Bool) := ocons r0 fun a0 r1 => ocons r1 fun a1 r2 => ocons r2 fun a2 r3 => onil r3 (obind (argV (T := T) 136 a0) fun list0 => obind (argV (T := T) 3 a1) fun at1 => obind (argV (T := T) 3 a2) fun coin2 => spec_Choose n list0 at1 coin2)
def spec_Choose_ent (n : Nat) : Ent T := ⟨198, 12, [], Int × Bool, spec_Choose_D n, spec_Choose_enc⟩
def spec_Settle_D (n : Nat) (r0 : List (A T)) : Option (List SRadio × Int × Bool) := ocons r0 fun a0 r1 => ocons r1 fun a1 r2 => onil r2 (obind (argV (T := T) 136 a0) fun list0 => obind (argV (T := T) 24 a1) fun coins1 => spec_Settle n list0 coins1)
def spec_Settle_ent (n : Nat) : Ent T := ⟨94, 13, [], List SRadio × Int × Bool, spec_Settle_D n, spec_Settle_enc⟩
def impl_in_D (n : Nat) (r0 : List (A T)) : Option Bool := ocons r0 fun a0 r1 => ocons r1 fun a1 r2 => ocons r2 fun a2 r3 => onil r3 (obind (argV (T := T) 3 a0) fun n0 => obind (argV (T := T) 3 a1) fun least1 => obind (argV (T := T) 3 a2) fun most2 => impl_in n n0 least1 most2)
def impl_in_ent (n : Nat) : Ent T := ⟨113, 14, [], Bool, impl_in_D n, impl_in_enc⟩
def impl_idOk_D (n : Nat) (r0 : List (A T)) : Option Bool := ocons r0 fun a0 r1 => onil r1 (obind (argV (T := T) 3 a0) fun n0 => impl_idOk n n0)
def impl_idOk_ent (n : Nat) : Ent T := ⟨244, 15, [], Bool, impl_idOk_D n, impl_idOk_enc⟩
def impl_slotOk_D (n : Nat) (r0 : List (A T)) : Option Bool := ocons r0 fun a0 r1 => onil r1 (obind (argV (T := T) 3 a0) fun n0 => impl_slotOk n n0)
def impl_slotOk_ent (n : Nat) : Ent T := ⟨245, 16, [], Bool, impl_slotOk_D n, impl_slotOk_enc⟩
def slices_Index_int_int_D (n : Nat) (r0 : List (A T)) : Option Int := ocons r0 fun a0 r1 => ocons r1 fun a1 r2 => onil r2 (obind (argV (T := T) 24 a0) fun s0 => obind (argV (T := T) 3 a1) fun v1 => slices_Index_int_int n s0 v1)
def slices_Index_int_int_ent (n : Nat) : Ent T := ⟨214, 17, [], Int, slices_Index_int_int_D n, slices_Index_int_int_enc⟩
def slices_Contains_int_int_D (n : Nat) (r0 : List (A T)) : Option Bool := ocons r0 fun a0 r1 => ocons r1 fun a1 r2 => onil r2 (obind (argV (T := T) 24 a0) fun s0 => obind (argV (T := T) 3 a1) fun v1 => slices_Contains_int_int n s0 v1)
def slices_Contains_int_int_ent (n : Nat) : Ent T := ⟨114, 18, [], Bool, slices_Contains_int_int_D n, slices_Contains_int_int_enc⟩
def impl_RadiosOk_D (n : Nat) (r0 : List (A T)) : Option Bool := ocons r0 fun a0 r1 => onil r1 (obind (argV (T := T) 136 a0) fun list0 => impl_RadiosOk n list0)
def impl_RadiosOk_ent (n : Nat) : Ent T := ⟨200, 19, [], Bool, impl_RadiosOk_D n, impl_RadiosOk_enc⟩
def impl_Settle_1_D (n : Nat) (r0 : List (A T)) : Option Bool := ocons r0 fun a0 r1 => onil r1 (obind (argV (T := T) 3 a0) fun c0 => impl_Settle_1 n c0)
def impl_Settle_1_ent (n : Nat) : Ent T := ⟨202, 20, [], Bool, impl_Settle_1_D n, impl_Settle_1_enc⟩
def slices_IndexFunc_int_int__impl_Settle_1_D (n : Nat) (ar : List (A T)) : Option Int := match ar with
  | [a0, .fn _ []] => obind (argV (T := T) 24 a0) fun s0 => slices_IndexFunc_int_int__impl_Settle_1 n s0
  | _ => none
def slices_IndexFunc_int_int__impl_Settle_1_ent (n : Nat) : Ent T := ⟨246, 21, [202], Int, slices_IndexFunc_int_int__impl_Settle_1_D n, slices_IndexFunc_int_int__impl_Settle_1_enc⟩
def slices_ContainsFunc_int_int__impl_Settle_1_D (n : Nat) (ar : List (A T)) : Option Bool := match ar with
  | [a0, .fn _ []] => obind (argV (T := T) 24 a0) fun s0 => slices_ContainsFunc_int_int__impl_Settle_1 n s0
  | _ => none
def slices_ContainsFunc_int_int__impl_Settle_1_ent (n : Nat) : Ent T := ⟨201, 22, [202], Bool, slices_ContainsFunc_int_int__impl_Settle_1_D n, slices_ContainsFunc_int_int__impl_Settle_1_enc⟩
def impl_own_impl_Radio_D (n : Nat) (r0 : List (A T)) : Option (List SRadio) := ocons r0 fun a0 r1 => onil r1 (obind (argV (T := T) 136 a0) fun l0 => impl_own_impl_Radio n l0)
def impl_own_impl_Radio_ent (n : Nat) : Ent T := ⟨203, 23, [], List SRadio, impl_own_impl_Radio_D n, impl_own_impl_Radio_enc⟩
def impl_own_int_D (n : Nat) (r0 : List (A T)) : Option (List Int) := ocons r0 fun a0 r1 => onil r1 (obind (argV (T := T) 24 a0) fun l0 => impl_own_int n l0)
def impl_own_int_ent (n : Nat) : Ent T := ⟨106, 24, [], List Int, impl_own_int_D n, impl_own_int_enc⟩
def impl_Clashes_1_D (n : Nat) (r0 : List (A T)) : Option Bool := ocons r0 fun a0 r1 => ocons r1 fun a1 r2 => ocons r2 fun a2 r3 => onil r3 (obind (argV (T := T) 3 a0) fun h0 => obind (argP (T := T) 136 a1) fun a1 => obind (argP (T := T) 250 a2) fun a2 => impl_Clashes_1 n h0 a1 a2)
def impl_Clashes_1_ent (n : Nat) : Ent T := ⟨247, 25, [], Bool, impl_Clashes_1_D n, impl_Clashes_1_enc⟩
def slices_IndexFunc_int_int__impl_Clashes_1_D (n : Nat) (ar : List (A T)) : Option Int := match ar with
  | [a0, .fn _ [k1_0, k1_1]] => obind (argV (T := T) 24 a0) fun s0 => obind (argP (T := T) 136 k1_0) fun f1c0 => obind (argP (T := T) 250 k1_1) fun f1c1 => slices_IndexFunc_int_int__impl_Clashes_1 n s0 f1c0 f1c1
  | _ => none
def slices_IndexFunc_int_int__impl_Clashes_1_ent (n : Nat) : Ent T := ⟨246, 26, [247], Int, slices_IndexFunc_int_int__impl_Clashes_1_D n, slices_IndexFunc_int_int__impl_Clashes_1_enc⟩
def slices_ContainsFunc_int_int__impl_Clashes_1_D (n : Nat) (ar : List (A T)) : Option Bool := match ar with
  | [a0, .fn _ [k1_0, k1_1]] => obind (argV (T := T) 24 a0) fun s0 => obind (argP (T := T) 136 k1_0) fun f1c0 => obind (argP (T := T) 250 k1_1) fun f1c1 => slices_ContainsFunc_int_int__impl_Clashes_1 n s0 f1c0 f1c1
  | _ => none
def slices_ContainsFunc_int_int__impl_Clashes_1_ent (n : Nat) : Ent T := ⟨201, 27, [247], Bool, slices_ContainsFunc_int_int__impl_Clashes_1_D n, slices_ContainsFunc_int_int__impl_Clashes_1_enc⟩
def impl_Clashes_D (n : Nat) (r0 : List (A T)) : Option (List Int) := ocons r0 fun a0 r1 => onil r1 (obind (argV (T := T) 136 a0) fun list0 => impl_Clashes n list0)
def impl_Clashes_ent (n : Nat) : Ent T := ⟨204, 28, [], List Int, impl_Clashes_D n, impl_Clashes_enc⟩
def impl_Choose_1_D (n : Nat) (r0 : List (A T)) : Option Bool := ocons r0 fun a0 r1 => ocons r1 fun a1 r2 => ocons r2 fun a2 r3 => onil r3 (obind (argV (T := T) 3 a0) fun h0 => obind (argP (T := T) 136 a1) fun a1 => obind (argP (T := T) 3 a2) fun a2 => impl_Choose_1 n h0 a1 a2)
def impl_Choose_1_ent (n : Nat) : Ent T := ⟨248, 29, [], Bool, impl_Choose_1_D n, impl_Choose_1_enc⟩
def slices_IndexFunc_int_int__impl_Choose_1_D (n : Nat) (ar : List (A T)) : Option Int := match ar with
  | [a0, .fn _ [k1_0, k1_1]] => obind (argV (T := T) 24 a0) fun s0 => obind (argP (T := T) 136 k1_0) fun f1c0 => obind (argP (T := T) 3 k1_1) fun f1c1 => slices_IndexFunc_int_int__impl_Choose_1 n s0 f1c0 f1c1
  | _ => none
def slices_IndexFunc_int_int__impl_Choose_1_ent (n : Nat) : Ent T := ⟨246, 30, [248], Int, slices_IndexFunc_int_int__impl_Choose_1_D n, slices_IndexFunc_int_int__impl_Choose_1_enc⟩
def slices_ContainsFunc_int_int__impl_Choose_1_D (n : Nat) (ar : List (A T)) : Option Bool := match ar with
  | [a0, .fn _ [k1_0, k1_1]] => obind (argV (T := T) 24 a0) fun s0 => obind (argP (T := T) 136 k1_0) fun f1c0 => obind (argP (T := T) 3 k1_1) fun f1c1 => slices_ContainsFunc_int_int__impl_Choose_1 n s0 f1c0 f1c1
  | _ => none
def slices_ContainsFunc_int_int__impl_Choose_1_ent (n : Nat) : Ent T := ⟨201, 31, [248], Bool, slices_ContainsFunc_int_int__impl_Choose_1_D n, slices_ContainsFunc_int_int__impl_Choose_1_enc⟩
def impl_Choose_D (n : Nat) (r0 : List (A T)) : Option (Int × Bool) := ocons r0 fun a0 r1 => ocons r1 fun a1 r2 => ocons r2 fun a2 r3 => onil r3 (obind (argV (T := T) 136 a0) fun list0 => obind (argV (T := T) 3 a1) fun at1 => obind (argV (T := T) 3 a2) fun coin2 => impl_Choose n list0 at1 coin2)
def impl_Choose_ent (n : Nat) : Ent T := ⟨205, 32, [], Int × Bool, impl_Choose_D n, impl_Choose_enc⟩
def impl_Settle_D (n : Nat) (r0 : List (A T)) : Option (List SRadio × Int × Bool) := ocons r0 fun a0 r1 => ocons r1 fun a1 r2 => onil r2 (obind (argV (T := T) 136 a0) fun list0 => obind (argV (T := T) 24 a1) fun coins1 => impl_Settle n list0 coins1)
def impl_Settle_ent (n : Nat) : Ent T := ⟨96, 33, [], List SRadio × Int × Bool, impl_Settle_D n, impl_Settle_enc⟩
def laws_eqIntS_D (n : Nat) (r0 : List (A T)) : Option Bool := ocons r0 fun a0 r1 => ocons r1 fun a1 r2 => onil r2 (obind (argV (T := T) 24 a0) fun a0 => obind (argV (T := T) 24 a1) fun b1 => laws_eqIntS n a0 b1)
def laws_eqIntS_ent (n : Nat) : Ent T := ⟨19, 34, [], Bool, laws_eqIntS_D n, laws_eqIntS_enc⟩
def laws_eqRadio_D (n : Nat) (r0 : List (A T)) : Option Bool := ocons r0 fun a0 r1 => ocons r1 fun a1 r2 => onil r2 (obind (argV (T := T) 250 a0) fun a0 => obind (argV (T := T) 250 a1) fun b1 => laws_eqRadio n a0 b1)
def laws_eqRadio_ent (n : Nat) : Ent T := ⟨206, 35, [], Bool, laws_eqRadio_D n, laws_eqRadio_enc⟩
def laws_eqRadioS_D (n : Nat) (r0 : List (A T)) : Option Bool := ocons r0 fun a0 r1 => ocons r1 fun a1 r2 => onil r2 (obind (argV (T := T) 136 a0) fun a0 => obind (argV (T := T) 136 a1) fun b1 => laws_eqRadioS n a0 b1)
def laws_eqRadioS_ent (n : Nat) : Ent T := ⟨97, 36, [], Bool, laws_eqRadioS_D n, laws_eqRadioS_enc⟩
def laws_markIntS_D (n : Nat) (r0 : List (A T)) : Option (Int × List Int) := ocons r0 fun a0 r1 => ocons r1 fun a1 r2 => onil r2 (obind (argV (T := T) 24 a0) fun a0 => obind (argV (T := T) 3 a1) fun k1 => laws_markIntS n a0 k1)
def laws_markIntS_ent (n : Nat) : Ent T := ⟨22, 37, [], Int × List Int, laws_markIntS_D n, laws_markIntS_enc⟩
def laws_markRadioS_D (n : Nat) (r0 : List (A T)) : Option (Int × List SRadio) := ocons r0 fun a0 r1 => ocons r1 fun a1 r2 => onil r2 (obind (argV (T := T) 136 a0) fun a0 => obind (argV (T := T) 3 a1) fun k1 => laws_markRadioS n a0 k1)
def laws_markRadioS_ent (n : Nat) : Ent T := ⟨98, 38, [], Int × List SRadio, laws_markRadioS_D n, laws_markRadioS_enc⟩
def laws_heldIntS_D (n : Nat) (r0 : List (A T)) : Option Int := ocons r0 fun a0 r1 => ocons r1 fun a1 r2 => onil r2 (obind (argV (T := T) 24 a0) fun a0 => obind (argV (T := T) 3 a1) fun k1 => laws_heldIntS n a0 k1)
def laws_heldIntS_ent (n : Nat) : Ent T := ⟨23, 39, [], Int, laws_heldIntS_D n, laws_heldIntS_enc⟩
def laws_heldRadioS_D (n : Nat) (r0 : List (A T)) : Option Int := ocons r0 fun a0 r1 => ocons r1 fun a1 r2 => onil r2 (obind (argV (T := T) 136 a0) fun a0 => obind (argV (T := T) 3 a1) fun k1 => laws_heldRadioS n a0 k1)
def laws_heldRadioS_ent (n : Nat) : Ent T := ⟨99, 40, [], Int, laws_heldRadioS_D n, laws_heldRadioS_enc⟩
def laws_FnExactSettle_D (n : Nat) (r0 : List (A T)) : Option Bool := ocons r0 fun a0 r1 => ocons r1 fun a1 r2 => onil r2 (obind (argV (T := T) 134 a0) fun aList0 => obind (argV (T := T) 24 a1) fun aCoins1 => laws_FnExactSettle n aList0 aCoins1)
def laws_FnExactSettle_ent (n : Nat) : Ent T := ⟨14, 41, [], Bool, laws_FnExactSettle_D n, laws_FnExactSettle_enc⟩
def ents (n : Nat) : List (Ent T) := [laws_szIntS_ent n, laws_szRadio_ent n, laws_szRadioS_ent n, laws_toIntS_ent n, laws_toRadio_ent n, laws_toRadioS_ent n, spec_l1In_ent n, spec_l9Has_ent n, spec_RadiosOk_ent n, spec_l3All_ent n, spec_l9Copy_ent n, spec_Clashes_ent n, spec_Choose_ent n, spec_Settle_ent n, impl_in_ent n, impl_idOk_ent n, impl_slotOk_ent n, slices_Index_int_int_ent n, slices_Contains_int_int_ent n, impl_RadiosOk_ent n, impl_Settle_1_ent n, slices_IndexFunc_int_int__impl_Settle_1_ent n, slices_ContainsFunc_int_int__impl_Settle_1_ent n, impl_own_impl_Radio_ent n, impl_own_int_ent n, impl_Clashes_1_ent n, slices_IndexFunc_int_int__impl_Clashes_1_ent n, slices_ContainsFunc_int_int__impl_Clashes_1_ent n, impl_Clashes_ent n, impl_Choose_1_ent n, slices_IndexFunc_int_int__impl_Choose_1_ent n, slices_ContainsFunc_int_int__impl_Choose_1_ent n, impl_Choose_ent n, impl_Settle_ent n, laws_eqIntS_ent n, laws_eqRadio_ent n, laws_eqRadioS_ent n, laws_markIntS_ent n, laws_markRadioS_ent n, laws_heldIntS_ent n, laws_heldRadioS_ent n, laws_FnExactSettle_ent n]
abbrev Phi (n i : Nat) {R : Type} (f : Nat) (ar : List (A T)) (K : Res T → Option R) : Option R := PhiE (ents n) i f ar K
theorem mixed : Try.prog.follows .mixedOrders = true := by kernel_rfl
noncomputable def laws_szIntS_code : Code := match Try.f242.body with | some c => c | none => .skip
def laws_szIntS_ann : Ann := fun id => none
def laws_szIntS_Ls (n : Nat) : Nat → Option (LSpec T) := fun id => none
theorem laws_szIntS_tie (n : Nat) (a0 : List Int) (left1 : Int) : evF (T := T) (Phi n 0) (laws_szIntS_Ls n) laws_szIntS_ann n Try.f242 (sg 242) [vA T 24 a0, vA T 3 left1] laws_szIntS_dec = laws_szIntS n a0 left1 := by kernel_rfl
theorem laws_szIntS_lo (n : Nat) : LoopsOk (T := T) (Phi n 0) (laws_szIntS_Ls n) laws_szIntS_ann n laws_szIntS_code := loopsOk_all (cs := []) (by kernel_rfl) trivial
theorem laws_szIntS_ok (n : Nat) : EntOk Try.prog (ents n) (laws_szIntS_ent n) := by
  intro hs ar y hg h
  replace h : laws_szIntS_D n ar = some y := h
  unfold laws_szIntS_D at h
  replace h := ocons_some h
  obtain ⟨a0, r0, rfl, h⟩ := h
  replace h := ocons_some h
  obtain ⟨a1, r1, rfl, h⟩ := h
  replace h := onil_some h
  obtain ⟨rfl, h⟩ := h
  obtain ⟨a0, qh0, h⟩ := obind_some h
  obtain ⟨left1, qh1, h⟩ := obind_some h
  rw [argV_eq ok qh0, argV_eq ok qh1]
  exact call_of (phiE_nat _ _) hs ok mixed Try.func242 (c := laws_szIntS_code) (by kernel_rfl) (laws_szIntS_lo n) (by kernel_rfl) (by kernel_rfl) (by kernel_rfl) laws_szIntS_de ((laws_szIntS_tie n a0 left1).trans h)
noncomputable def laws_szRadio_code : Code := match Try.f193.body with | some c => c | none => .skip
def laws_szRadio_ann : Ann := fun id => none
def laws_szRadio_Ls (n : Nat) : Nat → Option (LSpec T) := fun id => none
theorem laws_szRadio_tie (n : Nat) (a0 : SRadio) (left1 : Int) : evF (T := T) (Phi n 1) (laws_szRadio_Ls n) laws_szRadio_ann n Try.f193 (sg 193) [vA T 243 a0, vA T 3 left1] laws_szRadio_dec = laws_szRadio n a0 left1 := by kernel_rfl
theorem laws_szRadio_lo (n : Nat) : LoopsOk (T := T) (Phi n 1) (laws_szRadio_Ls n) laws_szRadio_ann n laws_szRadio_code := loopsOk_all (cs := []) (by kernel_rfl) trivial
theorem laws_szRadio_ok (n : Nat) : EntOk Try.prog (ents n) (laws_szRadio_ent n) := by
  intro hs ar y hg h
  replace h : laws_szRadio_D n ar = some y := h
  unfold laws_szRadio_D at h
  replace h := ocons_some h
  obtain ⟨a0, r0, rfl, h⟩ := h
  replace h := ocons_some h
  obtain ⟨a1, r1, rfl, h⟩ := h
  replace h := onil_some h
  obtain ⟨rfl, h⟩ := h
  obtain ⟨a0, qh0, h⟩ := obind_some h
  obtain ⟨left1, qh1, h⟩ := obind_some h
  rw [argV_eq ok qh0, argV_eq ok qh1]
  exact call_of (phiE_nat _ _) hs ok mixed Try.func193 (c := laws_szRadio_code) (by kernel_rfl) (laws_szRadio_lo n) (by kernel_rfl) (by kernel_rfl) (by kernel_rfl) laws_szRadio_de ((laws_szRadio_tie n a0 left1).trans h)
noncomputable def laws_szRadioS_code : Code := match Try.f93.body with | some c => c | none => .skip
def laws_szRadioS_5_sv : List Sv := [.one (.arr 243), .one (.int .i64), .one (.int .i64)]
def laws_szRadioS_5_so : List So := []
def laws_szRadioS_5_emb (c : List SRadio) (x : Int × Int) : EVs T laws_szRadioS_5_sv × EOs T laws_szRadioS_5_so := ((c, x.1, x.2, ()), ())
def laws_szRadioS_5_prj (y : EVs T laws_szRadioS_5_sv × EOs T laws_szRadioS_5_so) : List SRadio × (Int × Int) := ((y.1.1), (y.1.2.1, y.1.2.2.1))
def laws_szRadioS_5_b (n : Nat) {R : Type} (K : Ex → Sm.St T → Option R) (c : List SRadio) (x : Int × Int) (J : (Int × Int) → Option R) : Option R :=
  laws_szRadioS_L5 n (fun (y0 : Int) => K (.exit 0) (stOf (T := T) [1] [] [.one (.int .i64)] [] (y0, ()) ())) (fun (y0 : Int) => K .ret (stOf (T := T) [4] [] [.one (.int .i64)] [] (y0, ()) ())) (fun z0 z1 => J (z0, z1)) c x.1 x.2
def laws_szRadioS_5_sp (n : Nat) : LSpec T := mkSpec T ⟨[], [0, 1, 5], []⟩ laws_szRadioS_5_sv laws_szRadioS_5_so (List SRadio) (Int × Int) laws_szRadioS_5_emb laws_szRadioS_5_prj (laws_szRadioS_5_b n)
noncomputable def laws_szRadioS_5_c : Code := ((loopCodes laws_szRadioS_code)[0]?).getD .skip
def laws_szRadioS_ann : Ann := fun id => bif Nat.beq id 3000005 then some ⟨[], [1], []⟩ else bif Nat.beq id 2000005 then some ⟨[], [4], []⟩ else none
def laws_szRadioS_Ls (n : Nat) : Nat → Option (LSpec T) := fun id => bif Nat.beq id 5 then some (laws_szRadioS_5_sp n) else none
theorem laws_szRadioS_5_le (n : Nat) : LoopEq (T := T) (Phi n 2) (laws_szRadioS_Ls n) laws_szRadioS_ann n laws_szRadioS_5_c (laws_szRadioS_5_sp n) := ⟨mkSpec_dec (fun y => rfl), fun c x => by kernel_rfl, fun K J c x => by kernel_rfl⟩
theorem laws_szRadioS_tie (n : Nat) (a0 : List SRadio) (left1 : Int) : evF (T := T) (Phi n 2) (laws_szRadioS_Ls n) laws_szRadioS_ann n Try.f93 (sg 93) [vA T 134 a0, vA T 3 left1] laws_szRadioS_dec = laws_szRadioS n a0 left1 := by kernel_rfl
theorem laws_szRadioS_lo (n : Nat) : LoopsOk (T := T) (Phi n 2) (laws_szRadioS_Ls n) laws_szRadioS_ann n laws_szRadioS_code := loopsOk_all (cs := [laws_szRadioS_5_c]) (by kernel_rfl) ⟨⟨_, by kernel_rfl, laws_szRadioS_5_le n⟩, trivial⟩
theorem laws_szRadioS_ok (n : Nat) : EntOk Try.prog (ents n) (laws_szRadioS_ent n) := by
  intro hs ar y hg h
  replace h : laws_szRadioS_D n ar = some y := h
  unfold laws_szRadioS_D at h
  replace h := ocons_some h
  obtain ⟨a0, r0, rfl, h⟩ := h
  replace h := ocons_some h
  obtain ⟨a1, r1, rfl, h⟩ := h
  replace h := onil_some h
  obtain ⟨rfl, h⟩ := h
  obtain ⟨a0, qh0, h⟩ := obind_some h
  obtain ⟨left1, qh1, h⟩ := obind_some h
  rw [argV_eq ok qh0, argV_eq ok qh1]
  exact call_of (phiE_nat _ _) hs ok mixed Try.func93 (c := laws_szRadioS_code) (by kernel_rfl) (laws_szRadioS_lo n) (by kernel_rfl) (by kernel_rfl) (by kernel_rfl) laws_szRadioS_de ((laws_szRadioS_tie n a0 left1).trans h)
noncomputable def laws_toIntS_code : Code := match Try.f27.body with | some c => c | none => .skip
def laws_toIntS_3_sv : List Sv := [.one (.arr 3), .one (.own 3000000 3 false), .one (.int .i64)]
def laws_toIntS_3_so : List So := [.arr 3 false]
def laws_toIntS_3_emb (c : List Int) (x : Int × List Int) : EVs T laws_toIntS_3_sv × EOs T laws_toIntS_3_so := ((c, (), x.1, ()), (x.2, ()))
def laws_toIntS_3_prj (y : EVs T laws_toIntS_3_sv × EOs T laws_toIntS_3_so) : List Int × (Int × List Int) := ((y.1.1), (y.1.2.2.1, y.2.1))
def laws_toIntS_3_b (n : Nat) {R : Type} (K : Ex → Sm.St T → Option R) (c : List Int) (x : Int × List Int) (J : (Int × List Int) → Option R) : Option R :=
  laws_toIntS_L3 n (fun (y0 : List Int) => K (.exit 0) (stOf (T := T) [3] [3000000] [.one (.own 3000000 3 false)] [.arr 3 false] ((), ()) (y0, ()))) (fun z0 z1 => J (z0, z1)) c x.1 x.2
def laws_toIntS_3_sp (n : Nat) : LSpec T := mkSpec T ⟨[((.reg 3), 3000000, 3)], [0, 3, 4], [3000000]⟩ laws_toIntS_3_sv laws_toIntS_3_so (List Int) (Int × List Int) laws_toIntS_3_emb laws_toIntS_3_prj (laws_toIntS_3_b n)
noncomputable def laws_toIntS_3_c : Code := ((loopCodes laws_toIntS_code)[0]?).getD .skip
def laws_toIntS_ann : Ann := fun id => bif Nat.beq id 3000003 then some ⟨[((.reg 3), 3000000, 3)], [3], [3000000]⟩ else none
def laws_toIntS_Ls (n : Nat) : Nat → Option (LSpec T) := fun id => bif Nat.beq id 3 then some (laws_toIntS_3_sp n) else none
theorem laws_toIntS_3_le (n : Nat) : LoopEq (T := T) (Phi n 3) (laws_toIntS_Ls n) laws_toIntS_ann n laws_toIntS_3_c (laws_toIntS_3_sp n) := ⟨mkSpec_dec (fun y => rfl), fun c x => by kernel_rfl, fun K J c x => by kernel_rfl⟩
theorem laws_toIntS_tie (n : Nat) (a0 : List Int) : evF (T := T) (Phi n 3) (laws_toIntS_Ls n) laws_toIntS_ann n Try.f27 (sg 27) [vA T 24 a0] laws_toIntS_dec = laws_toIntS n a0 := by kernel_rfl
theorem laws_toIntS_lo (n : Nat) : LoopsOk (T := T) (Phi n 3) (laws_toIntS_Ls n) laws_toIntS_ann n laws_toIntS_code := loopsOk_all (cs := [laws_toIntS_3_c]) (by kernel_rfl) ⟨⟨_, by kernel_rfl, laws_toIntS_3_le n⟩, trivial⟩
theorem laws_toIntS_ok (n : Nat) : EntOk Try.prog (ents n) (laws_toIntS_ent n) := by
  intro hs ar y hg h
  replace h : laws_toIntS_D n ar = some y := h
  unfold laws_toIntS_D at h
  replace h := ocons_some h
  obtain ⟨a0, r0, rfl, h⟩ := h
  replace h := onil_some h
  obtain ⟨rfl, h⟩ := h
  obtain ⟨a0, qh0, h⟩ := obind_some h
  rw [argV_eq ok qh0]
  exact call_of (phiE_nat _ _) hs ok mixed Try.func27 (c := laws_toIntS_code) (by kernel_rfl) (laws_toIntS_lo n) (by kernel_rfl) (by kernel_rfl) (by kernel_rfl) laws_toIntS_de ((laws_toIntS_tie n a0).trans h)
noncomputable def laws_toRadio_code : Code := match Try.f199.body with | some c => c | none => .skip
def laws_toRadio_ann : Ann := fun id => none
def laws_toRadio_Ls (n : Nat) : Nat → Option (LSpec T) := fun id => none
theorem laws_toRadio_tie (n : Nat) (a0 : SRadio) : evF (T := T) (Phi n 4) (laws_toRadio_Ls n) laws_toRadio_ann n Try.f199 (sg 199) [vA T 243 a0] laws_toRadio_dec = laws_toRadio n a0 := by kernel_rfl
theorem laws_toRadio_lo (n : Nat) : LoopsOk (T := T) (Phi n 4) (laws_toRadio_Ls n) laws_toRadio_ann n laws_toRadio_code := loopsOk_all (cs := []) (by kernel_rfl) trivial
theorem laws_toRadio_ok (n : Nat) : EntOk Try.prog (ents n) (laws_toRadio_ent n) := by
  intro hs ar y hg h
  replace h : laws_toRadio_D n ar = some y := h
  unfold laws_toRadio_D at h
  replace h := ocons_some h
  obtain ⟨a0, r0, rfl, h⟩ := h
  replace h := onil_some h
  obtain ⟨rfl, h⟩ := h
  obtain ⟨a0, qh0, h⟩ := obind_some h
  rw [argV_eq ok qh0]
  exact call_of (phiE_nat _ _) hs ok mixed Try.func199 (c := laws_toRadio_code) (by kernel_rfl) (laws_toRadio_lo n) (by kernel_rfl) (by kernel_rfl) (by kernel_rfl) laws_toRadio_de ((laws_toRadio_tie n a0).trans h)
noncomputable def laws_toRadioS_code : Code := match Try.f95.body with | some c => c | none => .skip
def laws_toRadioS_3_sv : List Sv := [.one (.arr 243), .one (.own 3000000 250 false), .one (.int .i64)]
def laws_toRadioS_3_so : List So := [.arr 250 false]
def laws_toRadioS_3_emb (c : List SRadio) (x : Int × List SRadio) : EVs T laws_toRadioS_3_sv × EOs T laws_toRadioS_3_so := ((c, (), x.1, ()), (x.2, ()))
def laws_toRadioS_3_prj (y : EVs T laws_toRadioS_3_sv × EOs T laws_toRadioS_3_so) : List SRadio × (Int × List SRadio) := ((y.1.1), (y.1.2.2.1, y.2.1))
def laws_toRadioS_3_b (n : Nat) {R : Type} (K : Ex → Sm.St T → Option R) (c : List SRadio) (x : Int × List SRadio) (J : (Int × List SRadio) → Option R) : Option R :=
  laws_toRadioS_L3 n (fun (y0 : List SRadio) => K (.exit 0) (stOf (T := T) [3] [3000000] [.one (.own 3000000 250 false)] [.arr 250 false] ((), ()) (y0, ()))) (fun z0 z1 => J (z0, z1)) c x.1 x.2
def laws_toRadioS_3_sp (n : Nat) : LSpec T := mkSpec T ⟨[((.reg 3), 3000000, 250)], [0, 3, 4], [3000000]⟩ laws_toRadioS_3_sv laws_toRadioS_3_so (List SRadio) (Int × List SRadio) laws_toRadioS_3_emb laws_toRadioS_3_prj (laws_toRadioS_3_b n)
noncomputable def laws_toRadioS_3_c : Code := ((loopCodes laws_toRadioS_code)[0]?).getD .skip
def laws_toRadioS_ann : Ann := fun id => bif Nat.beq id 3000003 then some ⟨[((.reg 3), 3000000, 250)], [3], [3000000]⟩ else none
def laws_toRadioS_Ls (n : Nat) : Nat → Option (LSpec T) := fun id => bif Nat.beq id 3 then some (laws_toRadioS_3_sp n) else none
theorem laws_toRadioS_3_le (n : Nat) : LoopEq (T := T) (Phi n 5) (laws_toRadioS_Ls n) laws_toRadioS_ann n laws_toRadioS_3_c (laws_toRadioS_3_sp n) := ⟨mkSpec_dec (fun y => rfl), fun c x => by kernel_rfl, fun K J c x => by kernel_rfl⟩
theorem laws_toRadioS_tie (n : Nat) (a0 : List SRadio) : evF (T := T) (Phi n 5) (laws_toRadioS_Ls n) laws_toRadioS_ann n Try.f95 (sg 95) [vA T 134 a0] laws_toRadioS_dec = laws_toRadioS n a0 := by kernel_rfl
theorem laws_toRadioS_lo (n : Nat) : LoopsOk (T := T) (Phi n 5) (laws_toRadioS_Ls n) laws_toRadioS_ann n laws_toRadioS_code := loopsOk_all (cs := [laws_toRadioS_3_c]) (by kernel_rfl) ⟨⟨_, by kernel_rfl, laws_toRadioS_3_le n⟩, trivial⟩
theorem laws_toRadioS_ok (n : Nat) : EntOk Try.prog (ents n) (laws_toRadioS_ent n) := by
  intro hs ar y hg h
  replace h : laws_toRadioS_D n ar = some y := h
  unfold laws_toRadioS_D at h
  replace h := ocons_some h
  obtain ⟨a0, r0, rfl, h⟩ := h
  replace h := onil_some h
  obtain ⟨rfl, h⟩ := h
  obtain ⟨a0, qh0, h⟩ := obind_some h
  rw [argV_eq ok qh0]
  exact call_of (phiE_nat _ _) hs ok mixed Try.func95 (c := laws_toRadioS_code) (by kernel_rfl) (laws_toRadioS_lo n) (by kernel_rfl) (by kernel_rfl) (by kernel_rfl) laws_toRadioS_de ((laws_toRadioS_tie n a0).trans h)
noncomputable def spec_l1In_code : Code := match Try.f101.body with | some c => c | none => .skip
def spec_l1In_ann : Ann := fun id => none
def spec_l1In_Ls (n : Nat) : Nat → Option (LSpec T) := fun id => none
theorem spec_l1In_tie (n : Nat) (x0 : Int) (a1 : Int) (b2 : Int) : evF (T := T) (Phi n 6) (spec_l1In_Ls n) spec_l1In_ann n Try.f101 (sg 101) [vA T 3 x0, vA T 3 a1, vA T 3 b2] spec_l1In_dec = spec_l1In n x0 a1 b2 := by kernel_rfl
theorem spec_l1In_lo (n : Nat) : LoopsOk (T := T) (Phi n 6) (spec_l1In_Ls n) spec_l1In_ann n spec_l1In_code := loopsOk_all (cs := []) (by kernel_rfl) trivial
theorem spec_l1In_ok (n : Nat) : EntOk Try.prog (ents n) (spec_l1In_ent n) := by
  intro hs ar y hg h
  replace h : spec_l1In_D n ar = some y := h
  unfold spec_l1In_D at h
  replace h := ocons_some h
  obtain ⟨a0, r0, rfl, h⟩ := h
  replace h := ocons_some h
  obtain ⟨a1, r1, rfl, h⟩ := h
  replace h := ocons_some h
  obtain ⟨a2, r2, rfl, h⟩ := h
  replace h := onil_some h
  obtain ⟨rfl, h⟩ := h
  obtain ⟨x0, qh0, h⟩ := obind_some h
  obtain ⟨a1, qh1, h⟩ := obind_some h
  obtain ⟨b2, qh2, h⟩ := obind_some h
  rw [argV_eq ok qh0, argV_eq ok qh1, argV_eq ok qh2]
  exact call_of (phiE_nat _ _) hs ok mixed Try.func101 (c := spec_l1In_code) (by kernel_rfl) (spec_l1In_lo n) (by kernel_rfl) (by kernel_rfl) (by kernel_rfl) spec_l1In_de ((spec_l1In_tie n x0 a1 b2).trans h)
noncomputable def spec_l9Has_code : Code := match Try.f243.body with | some c => c | none => .skip
def spec_l9Has_2_sv : List Sv := [.one (.arr 3), .one (.int .i64), .one (.int .i64)]
def spec_l9Has_2_so : List So := []
def spec_l9Has_2_emb (c : List Int × Int) (x : Int) : EVs T spec_l9Has_2_sv × EOs T spec_l9Has_2_so := ((c.1, c.2, x, ()), ())
def spec_l9Has_2_prj (y : EVs T spec_l9Has_2_sv × EOs T spec_l9Has_2_so) : (List Int × Int) × Int := ((y.1.1, y.1.2.1), (y.1.2.2.1))
def spec_l9Has_2_b (n : Nat) {R : Type} (K : Ex → Sm.St T → Option R) (c : List Int × Int) (x : Int) (J : Int → Option R) : Option R :=
  spec_l9Has_L2 n (K (.exit 0) (stOf (T := T) [] [] [] [] () ())) (fun (y0 : Bool) => K .ret (stOf (T := T) [4] [] [.one (.bool)] [] (y0, ()) ())) J c.1 c.2 x
def spec_l9Has_2_sp (n : Nat) : LSpec T := mkSpec T ⟨[], [0, 1, 5], []⟩ spec_l9Has_2_sv spec_l9Has_2_so (List Int × Int) (Int) spec_l9Has_2_emb spec_l9Has_2_prj (spec_l9Has_2_b n)
noncomputable def spec_l9Has_2_c : Code := ((loopCodes spec_l9Has_code)[0]?).getD .skip
def spec_l9Has_ann : Ann := fun id => bif Nat.beq id 3000002 then some ⟨[], [], []⟩ else bif Nat.beq id 2000002 then some ⟨[], [4], []⟩ else none
def spec_l9Has_Ls (n : Nat) : Nat → Option (LSpec T) := fun id => bif Nat.beq id 2 then some (spec_l9Has_2_sp n) else none
theorem spec_l9Has_2_le (n : Nat) : LoopEq (T := T) (Phi n 7) (spec_l9Has_Ls n) spec_l9Has_ann n spec_l9Has_2_c (spec_l9Has_2_sp n) := ⟨mkSpec_dec (fun y => rfl), fun c x => by kernel_rfl, fun K J c x => by kernel_rfl⟩
theorem spec_l9Has_tie (n : Nat) (list0 : List Int) (x1 : Int) : evF (T := T) (Phi n 7) (spec_l9Has_Ls n) spec_l9Has_ann n Try.f243 (sg 243) [vA T 24 list0, vA T 3 x1] spec_l9Has_dec = spec_l9Has n list0 x1 := by kernel_rfl
theorem spec_l9Has_lo (n : Nat) : LoopsOk (T := T) (Phi n 7) (spec_l9Has_Ls n) spec_l9Has_ann n spec_l9Has_code := loopsOk_all (cs := [spec_l9Has_2_c]) (by kernel_rfl) ⟨⟨_, by kernel_rfl, spec_l9Has_2_le n⟩, trivial⟩
theorem spec_l9Has_ok (n : Nat) : EntOk Try.prog (ents n) (spec_l9Has_ent n) := by
  intro hs ar y hg h
  replace h : spec_l9Has_D n ar = some y := h
  unfold spec_l9Has_D at h
  replace h := ocons_some h
  obtain ⟨a0, r0, rfl, h⟩ := h
  replace h := ocons_some h
  obtain ⟨a1, r1, rfl, h⟩ := h
  replace h := onil_some h
  obtain ⟨rfl, h⟩ := h
  obtain ⟨list0, qh0, h⟩ := obind_some h
  obtain ⟨x1, qh1, h⟩ := obind_some h
  rw [argV_eq ok qh0, argV_eq ok qh1]
  exact call_of (phiE_nat _ _) hs ok mixed Try.func243 (c := spec_l9Has_code) (by kernel_rfl) (spec_l9Has_lo n) (by kernel_rfl) (by kernel_rfl) (by kernel_rfl) spec_l9Has_de ((spec_l9Has_tie n list0 x1).trans h)
noncomputable def spec_RadiosOk_code : Code := match Try.f194.body with | some c => c | none => .skip
def spec_RadiosOk_4_sv : List Sv := [.one (.arr 250), .one (.int .i64)]
def spec_RadiosOk_4_so : List So := []
def spec_RadiosOk_4_emb (c : List SRadio) (x : Int) : EVs T spec_RadiosOk_4_sv × EOs T spec_RadiosOk_4_so := ((c, x, ()), ())
def spec_RadiosOk_4_prj (y : EVs T spec_RadiosOk_4_sv × EOs T spec_RadiosOk_4_so) : List SRadio × Int := ((y.1.1), (y.1.2.1))
def spec_RadiosOk_4_b (n : Nat) {R : Type} (K : Ex → Sm.St T → Option R) (c : List SRadio) (x : Int) (J : Int → Option R) : Option R :=
  spec_RadiosOk_L4 n (K (.exit 0) (stOf (T := T) [] [] [] [] () ())) (fun (y0 : Bool) => K .ret (stOf (T := T) [2] [] [.one (.bool)] [] (y0, ()) ())) J c x
def spec_RadiosOk_4_sp (n : Nat) : LSpec T := mkSpec T ⟨[], [0, 3], []⟩ spec_RadiosOk_4_sv spec_RadiosOk_4_so (List SRadio) (Int) spec_RadiosOk_4_emb spec_RadiosOk_4_prj (spec_RadiosOk_4_b n)
noncomputable def spec_RadiosOk_4_c : Code := ((loopCodes spec_RadiosOk_code)[0]?).getD .skip
def spec_RadiosOk_10_sv : List Sv := [.one (.arr 250), .one (.int .i64), .one (.ptr 32 0 0), .one (.int .i64)]
def spec_RadiosOk_10_so : List So := [.var [.int .i64, .int .i64, .arr 3]]
def spec_RadiosOk_10_emb (c : List SRadio × Int × SRadio) (x : Int) : EVs T spec_RadiosOk_10_sv × EOs T spec_RadiosOk_10_so := ((c.1, c.2.1, (), x, ()), ((c.2.2.Id, c.2.2.Slot, c.2.2.Hears, ()), ()))
def spec_RadiosOk_10_prj (y : EVs T spec_RadiosOk_10_sv × EOs T spec_RadiosOk_10_so) : (List SRadio × Int × SRadio) × Int := ((y.1.1, y.1.2.1, ((⟨y.2.1.1, y.2.1.2.1, y.2.1.2.2.1⟩ : SRadio) : SRadio)), (y.1.2.2.2.1))
def spec_RadiosOk_10_b (n : Nat) {R : Type} (K : Ex → Sm.St T → Option R) (c : List SRadio × Int × SRadio) (x : Int) (J : Int → Option R) : Option R :=
  spec_RadiosOk_L10 n (K (.exit 2) (stOf (T := T) [0, 3] [] [.one (.arr 250), .one (.int .i64)] [] (c.1, c.2.1, ()) ())) (fun (y0 : Bool) => K .ret (stOf (T := T) [2] [] [.one (.bool)] [] (y0, ()) ())) J c.1 c.2.1 x c.2.2
def spec_RadiosOk_10_sp (n : Nat) : LSpec T := mkSpec T ⟨[], [0, 3, 4, 5], [32]⟩ spec_RadiosOk_10_sv spec_RadiosOk_10_so (List SRadio × Int × SRadio) (Int) spec_RadiosOk_10_emb spec_RadiosOk_10_prj (spec_RadiosOk_10_b n)
noncomputable def spec_RadiosOk_10_c : Code := ((loopCodes spec_RadiosOk_code)[1]?).getD .skip
def spec_RadiosOk_ann : Ann := fun id => bif Nat.beq id 3000004 then some ⟨[], [], []⟩ else bif Nat.beq id 2000004 then some ⟨[], [2], []⟩ else bif Nat.beq id 5000010 then some ⟨[], [0, 3], []⟩ else bif Nat.beq id 2000010 then some ⟨[], [2], []⟩ else none
def spec_RadiosOk_Ls (n : Nat) : Nat → Option (LSpec T) := fun id => bif Nat.beq id 4 then some (spec_RadiosOk_4_sp n) else bif Nat.beq id 10 then some (spec_RadiosOk_10_sp n) else none
theorem spec_RadiosOk_4_le (n : Nat) : LoopEq (T := T) (Phi n 8) (spec_RadiosOk_Ls n) spec_RadiosOk_ann n spec_RadiosOk_4_c (spec_RadiosOk_4_sp n) := ⟨mkSpec_dec (fun y => rfl), fun c x => by kernel_rfl, fun K J c x => by kernel_rfl⟩
theorem spec_RadiosOk_10_le (n : Nat) : LoopEq (T := T) (Phi n 8) (spec_RadiosOk_Ls n) spec_RadiosOk_ann n spec_RadiosOk_10_c (spec_RadiosOk_10_sp n) := ⟨mkSpec_dec (fun y => rfl), fun c x => by kernel_rfl, fun K J c x => by kernel_rfl⟩
theorem spec_RadiosOk_tie (n : Nat) (list0 : List SRadio) : evF (T := T) (Phi n 8) (spec_RadiosOk_Ls n) spec_RadiosOk_ann n Try.f194 (sg 194) [vA T 136 list0] spec_RadiosOk_dec = spec_RadiosOk n list0 := by kernel_rfl
theorem spec_RadiosOk_lo (n : Nat) : LoopsOk (T := T) (Phi n 8) (spec_RadiosOk_Ls n) spec_RadiosOk_ann n spec_RadiosOk_code := loopsOk_all (cs := [spec_RadiosOk_4_c, spec_RadiosOk_10_c]) (by kernel_rfl) ⟨⟨_, by kernel_rfl, spec_RadiosOk_4_le n⟩, ⟨_, by kernel_rfl, spec_RadiosOk_10_le n⟩, trivial⟩
theorem spec_RadiosOk_ok (n : Nat) : EntOk Try.prog (ents n) (spec_RadiosOk_ent n) := by
  intro hs ar y hg h
  replace h : spec_RadiosOk_D n ar = some y := h
  unfold spec_RadiosOk_D at h
  replace h := ocons_some h
  obtain ⟨a0, r0, rfl, h⟩ := h
  replace h := onil_some h
  obtain ⟨rfl, h⟩ := h
  obtain ⟨list0, qh0, h⟩ := obind_some h
  rw [argV_eq ok qh0]
  exact call_of (phiE_nat _ _) hs ok mixed Try.func194 (c := spec_RadiosOk_code) (by kernel_rfl) (spec_RadiosOk_lo n) (by kernel_rfl) (by kernel_rfl) (by kernel_rfl) spec_RadiosOk_de ((spec_RadiosOk_tie n list0).trans h)
noncomputable def spec_l3All_code : Code := match Try.f195.body with | some c => c | none => .skip
def spec_l3All_2_sv : List Sv := [.one (.arr 3), .one (.int .i64), .one (.int .i64), .one (.int .i64)]
def spec_l3All_2_so : List So := []
def spec_l3All_2_emb (c : List Int × Int × Int) (x : Int) : EVs T spec_l3All_2_sv × EOs T spec_l3All_2_so := ((c.1, c.2.1, c.2.2, x, ()), ())
def spec_l3All_2_prj (y : EVs T spec_l3All_2_sv × EOs T spec_l3All_2_so) : (List Int × Int × Int) × Int := ((y.1.1, y.1.2.1, y.1.2.2.1), (y.1.2.2.2.1))
def spec_l3All_2_b (n : Nat) {R : Type} (K : Ex → Sm.St T → Option R) (c : List Int × Int × Int) (x : Int) (J : Int → Option R) : Option R :=
  spec_l3All_L2 n (K (.exit 0) (stOf (T := T) [] [] [] [] () ())) (fun (y0 : Bool) => K .ret (stOf (T := T) [6] [] [.one (.bool)] [] (y0, ()) ())) J c.1 c.2.1 c.2.2 x
def spec_l3All_2_sp (n : Nat) : LSpec T := mkSpec T ⟨[], [0, 1, 2, 7], []⟩ spec_l3All_2_sv spec_l3All_2_so (List Int × Int × Int) (Int) spec_l3All_2_emb spec_l3All_2_prj (spec_l3All_2_b n)
noncomputable def spec_l3All_2_c : Code := ((loopCodes spec_l3All_code)[0]?).getD .skip
def spec_l3All_ann : Ann := fun id => bif Nat.beq id 3000002 then some ⟨[], [], []⟩ else bif Nat.beq id 2000002 then some ⟨[], [6], []⟩ else none
def spec_l3All_Ls (n : Nat) : Nat → Option (LSpec T) := fun id => bif Nat.beq id 2 then some (spec_l3All_2_sp n) else none
theorem spec_l3All_2_le (n : Nat) : LoopEq (T := T) (Phi n 9) (spec_l3All_Ls n) spec_l3All_ann n spec_l3All_2_c (spec_l3All_2_sp n) := ⟨mkSpec_dec (fun y => rfl), fun c x => by kernel_rfl, fun K J c x => by kernel_rfl⟩
theorem spec_l3All_tie (n : Nat) (list0 : List Int) (a1 : Int) (b2 : Int) : evF (T := T) (Phi n 9) (spec_l3All_Ls n) spec_l3All_ann n Try.f195 (sg 195) [vA T 24 list0, vA T 3 a1, vA T 3 b2] spec_l3All_dec = spec_l3All n list0 a1 b2 := by kernel_rfl
theorem spec_l3All_lo (n : Nat) : LoopsOk (T := T) (Phi n 9) (spec_l3All_Ls n) spec_l3All_ann n spec_l3All_code := loopsOk_all (cs := [spec_l3All_2_c]) (by kernel_rfl) ⟨⟨_, by kernel_rfl, spec_l3All_2_le n⟩, trivial⟩
theorem spec_l3All_ok (n : Nat) : EntOk Try.prog (ents n) (spec_l3All_ent n) := by
  intro hs ar y hg h
  replace h : spec_l3All_D n ar = some y := h
  unfold spec_l3All_D at h
  replace h := ocons_some h
  obtain ⟨a0, r0, rfl, h⟩ := h
  replace h := ocons_some h
  obtain ⟨a1, r1, rfl, h⟩ := h
  replace h := ocons_some h
  obtain ⟨a2, r2, rfl, h⟩ := h
  replace h := onil_some h
  obtain ⟨rfl, h⟩ := h
  obtain ⟨list0, qh0, h⟩ := obind_some h
  obtain ⟨a1, qh1, h⟩ := obind_some h
  obtain ⟨b2, qh2, h⟩ := obind_some h
  rw [argV_eq ok qh0, argV_eq ok qh1, argV_eq ok qh2]
  exact call_of (phiE_nat _ _) hs ok mixed Try.func195 (c := spec_l3All_code) (by kernel_rfl) (spec_l3All_lo n) (by kernel_rfl) (by kernel_rfl) (by kernel_rfl) spec_l3All_de ((spec_l3All_tie n list0 a1 b2).trans h)
noncomputable def spec_l9Copy_code : Code := match Try.f196.body with | some c => c | none => .skip
def spec_l9Copy_3_sv : List Sv := [.one (.arr 250), .one (.own 3000000 250 false), .one (.int .i64)]
def spec_l9Copy_3_so : List So := [.arr 250 false]
def spec_l9Copy_3_emb (c : List SRadio) (x : Int × List SRadio) : EVs T spec_l9Copy_3_sv × EOs T spec_l9Copy_3_so := ((c, (), x.1, ()), (x.2, ()))
def spec_l9Copy_3_prj (y : EVs T spec_l9Copy_3_sv × EOs T spec_l9Copy_3_so) : List SRadio × (Int × List SRadio) := ((y.1.1), (y.1.2.2.1, y.2.1))
def spec_l9Copy_3_b (n : Nat) {R : Type} (K : Ex → Sm.St T → Option R) (c : List SRadio) (x : Int × List SRadio) (J : (Int × List SRadio) → Option R) : Option R :=
  spec_l9Copy_L3 n (fun (y0 : List SRadio) => K (.exit 0) (stOf (T := T) [3] [3000000] [.one (.own 3000000 250 false)] [.arr 250 false] ((), ()) (y0, ()))) (fun z0 z1 => J (z0, z1)) c x.1 x.2
def spec_l9Copy_3_sp (n : Nat) : LSpec T := mkSpec T ⟨[((.reg 3), 3000000, 250)], [0, 3, 4], [3000000]⟩ spec_l9Copy_3_sv spec_l9Copy_3_so (List SRadio) (Int × List SRadio) spec_l9Copy_3_emb spec_l9Copy_3_prj (spec_l9Copy_3_b n)
noncomputable def spec_l9Copy_3_c : Code := ((loopCodes spec_l9Copy_code)[0]?).getD .skip
def spec_l9Copy_ann : Ann := fun id => bif Nat.beq id 3000003 then some ⟨[((.reg 3), 3000000, 250)], [3], [3000000]⟩ else none
def spec_l9Copy_Ls (n : Nat) : Nat → Option (LSpec T) := fun id => bif Nat.beq id 3 then some (spec_l9Copy_3_sp n) else none
theorem spec_l9Copy_3_le (n : Nat) : LoopEq (T := T) (Phi n 10) (spec_l9Copy_Ls n) spec_l9Copy_ann n spec_l9Copy_3_c (spec_l9Copy_3_sp n) := ⟨mkSpec_dec (fun y => rfl), fun c x => by kernel_rfl, fun K J c x => by kernel_rfl⟩
theorem spec_l9Copy_tie (n : Nat) (list0 : List SRadio) : evF (T := T) (Phi n 10) (spec_l9Copy_Ls n) spec_l9Copy_ann n Try.f196 (sg 196) [vA T 136 list0] spec_l9Copy_dec = spec_l9Copy n list0 := by kernel_rfl
theorem spec_l9Copy_lo (n : Nat) : LoopsOk (T := T) (Phi n 10) (spec_l9Copy_Ls n) spec_l9Copy_ann n spec_l9Copy_code := loopsOk_all (cs := [spec_l9Copy_3_c]) (by kernel_rfl) ⟨⟨_, by kernel_rfl, spec_l9Copy_3_le n⟩, trivial⟩
theorem spec_l9Copy_ok (n : Nat) : EntOk Try.prog (ents n) (spec_l9Copy_ent n) := by
  intro hs ar y hg h
  replace h : spec_l9Copy_D n ar = some y := h
  unfold spec_l9Copy_D at h
  replace h := ocons_some h
  obtain ⟨a0, r0, rfl, h⟩ := h
  replace h := onil_some h
  obtain ⟨rfl, h⟩ := h
  obtain ⟨list0, qh0, h⟩ := obind_some h
  rw [argV_eq ok qh0]
  exact call_of (phiE_nat _ _) hs ok mixed Try.func196 (c := spec_l9Copy_code) (by kernel_rfl) (spec_l9Copy_lo n) (by kernel_rfl) (by kernel_rfl) (by kernel_rfl) spec_l9Copy_de ((spec_l9Copy_tie n list0).trans h)
noncomputable def spec_Clashes_code : Code := match Try.f197.body with | some c => c | none => .skip
def spec_Clashes_3_sv : List Sv := [.one (.arr 250), .one (.own 3000000 3 false), .one (.int .i64)]
def spec_Clashes_3_so : List So := [.arr 3 false]
def spec_Clashes_3_emb (c : List SRadio) (x : Int × List Int) : EVs T spec_Clashes_3_sv × EOs T spec_Clashes_3_so := ((c, (), x.1, ()), (x.2, ()))
def spec_Clashes_3_prj (y : EVs T spec_Clashes_3_sv × EOs T spec_Clashes_3_so) : List SRadio × (Int × List Int) := ((y.1.1), (y.1.2.2.1, y.2.1))
def spec_Clashes_3_b (n : Nat) {R : Type} (K : Ex → Sm.St T → Option R) (c : List SRadio) (x : Int × List Int) (J : (Int × List Int) → Option R) : Option R :=
  spec_Clashes_L3 n (fun (y0 : List Int) => K (.exit 0) (stOf (T := T) [3] [3000000] [.one (.own 3000000 3 false)] [.arr 3 false] ((), ()) (y0, ()))) (fun z0 z1 => J (z0, z1)) c x.1 x.2
def spec_Clashes_3_sp (n : Nat) : LSpec T := mkSpec T ⟨[((.reg 3), 3000000, 3)], [0, 3, 4], [3000000]⟩ spec_Clashes_3_sv spec_Clashes_3_so (List SRadio) (Int × List Int) spec_Clashes_3_emb spec_Clashes_3_prj (spec_Clashes_3_b n)
noncomputable def spec_Clashes_3_c : Code := ((loopCodes spec_Clashes_code)[0]?).getD .skip
def spec_Clashes_7_sv : List Sv := [.one (.arr 250), .one (.own 3000000 3 false), .one (.int .i64), .one (.bool), .one (.int .i64)]
def spec_Clashes_7_so : List So := [.arr 3 false]
def spec_Clashes_7_emb (c : List SRadio × Int × List Int) (x : Bool × Int) : EVs T spec_Clashes_7_sv × EOs T spec_Clashes_7_so := ((c.1, (), c.2.1, x.1, x.2, ()), (c.2.2, ()))
def spec_Clashes_7_prj (y : EVs T spec_Clashes_7_sv × EOs T spec_Clashes_7_so) : (List SRadio × Int × List Int) × (Bool × Int) := ((y.1.1, y.1.2.2.1, y.2.1), (y.1.2.2.2.1, y.1.2.2.2.2.1))
def spec_Clashes_7_b (n : Nat) {R : Type} (K : Ex → Sm.St T → Option R) (c : List SRadio × Int × List Int) (x : Bool × Int) (J : (Bool × Int) → Option R) : Option R :=
  spec_Clashes_L7 n (fun (y2 : Bool) => K (.exit 2) (stOf (T := T) [0, 3, 4, 5] [3000000] [.one (.arr 250), .one (.own 3000000 3 false), .one (.int .i64), .one (.bool)] [.arr 3 false] (c.1, (), c.2.1, y2, ()) (c.2.2, ()))) (fun z0 z1 => J (z0, z1)) c.1 c.2.1 x.1 x.2 c.2.2
def spec_Clashes_7_sp (n : Nat) : LSpec T := mkSpec T ⟨[((.reg 3), 3000000, 3)], [0, 3, 4, 5, 6], [3000000]⟩ spec_Clashes_7_sv spec_Clashes_7_so (List SRadio × Int × List Int) (Bool × Int) spec_Clashes_7_emb spec_Clashes_7_prj (spec_Clashes_7_b n)
noncomputable def spec_Clashes_7_c : Code := ((loopCodes spec_Clashes_code)[1]?).getD .skip
def spec_Clashes_ann : Ann := fun id => bif Nat.beq id 3000003 then some ⟨[((.reg 3), 3000000, 3)], [3], [3000000]⟩ else bif Nat.beq id 5000007 then some ⟨[((.reg 3), 3000000, 3)], [0, 3, 4, 5], [3000000]⟩ else none
def spec_Clashes_Ls (n : Nat) : Nat → Option (LSpec T) := fun id => bif Nat.beq id 3 then some (spec_Clashes_3_sp n) else bif Nat.beq id 7 then some (spec_Clashes_7_sp n) else none
theorem spec_Clashes_3_le (n : Nat) : LoopEq (T := T) (Phi n 11) (spec_Clashes_Ls n) spec_Clashes_ann n spec_Clashes_3_c (spec_Clashes_3_sp n) := ⟨mkSpec_dec (fun y => rfl), fun c x => by kernel_rfl, fun K J c x => by kernel_rfl⟩
theorem spec_Clashes_7_le (n : Nat) : LoopEq (T := T) (Phi n 11) (spec_Clashes_Ls n) spec_Clashes_ann n spec_Clashes_7_c (spec_Clashes_7_sp n) := ⟨mkSpec_dec (fun y => rfl), fun c x => by kernel_rfl, fun K J c x => by kernel_rfl⟩
theorem spec_Clashes_tie (n : Nat) (list0 : List SRadio) : evF (T := T) (Phi n 11) (spec_Clashes_Ls n) spec_Clashes_ann n Try.f197 (sg 197) [vA T 136 list0] spec_Clashes_dec = spec_Clashes n list0 := by kernel_rfl
theorem spec_Clashes_lo (n : Nat) : LoopsOk (T := T) (Phi n 11) (spec_Clashes_Ls n) spec_Clashes_ann n spec_Clashes_code := loopsOk_all (cs := [spec_Clashes_3_c, spec_Clashes_7_c]) (by kernel_rfl) ⟨⟨_, by kernel_rfl, spec_Clashes_3_le n⟩, ⟨_, by kernel_rfl, spec_Clashes_7_le n⟩, trivial⟩
theorem spec_Clashes_ok (n : Nat) : EntOk Try.prog (ents n) (spec_Clashes_ent n) := by
  intro hs ar y hg h
  replace h : spec_Clashes_D n ar = some y := h
  unfold spec_Clashes_D at h
  replace h := ocons_some h
  obtain ⟨a0, r0, rfl, h⟩ := h
  replace h := onil_some h
  obtain ⟨rfl, h⟩ := h
  obtain ⟨list0, qh0, h⟩ := obind_some h
  rw [argV_eq ok qh0]
  exact call_of (phiE_nat _ _) hs ok mixed Try.func197 (c := spec_Clashes_code) (by kernel_rfl) (spec_Clashes_lo n) (by kernel_rfl) (by kernel_rfl) (by kernel_rfl) spec_Clashes_de ((spec_Clashes_tie n list0).trans h)
noncomputable def spec_Choose_code : Code := match Try.f198.body with | some c => c | none => .skip
def spec_Choose_5_sv : List Sv := [.one (.arr 250), .one (.int .i64), .one (.int .i64), .one (.own 3000000 4 false), .one (.int .i64)]
def spec_Choose_5_so : List So := [.arr 4 false]
def spec_Choose_5_emb (c : List SRadio × Int × Int) (x : Int × List Bool) : EVs T spec_Choose_5_sv × EOs T spec_Choose_5_so := ((c.1, c.2.1, c.2.2, (), x.1, ()), (x.2, ()))
def spec_Choose_5_prj (y : EVs T spec_Choose_5_sv × EOs T spec_Choose_5_so) : (List SRadio × Int × Int) × (Int × List Bool) := ((y.1.1, y.1.2.1, y.1.2.2.1), (y.1.2.2.2.2.1, y.2.1))
def spec_Choose_5_b (n : Nat) {R : Type} (K : Ex → Sm.St T → Option R) (c : List SRadio × Int × Int) (x : Int × List Bool) (J : (Int × List Bool) → Option R) : Option R :=
  spec_Choose_L5 n (fun (y3 : List Bool) => K (.exit 0) (stOf (T := T) [0, 1, 2, 8] [3000000] [.one (.arr 250), .one (.int .i64), .one (.int .i64), .one (.own 3000000 4 false)] [.arr 4 false] (c.1, c.2.1, c.2.2, (), ()) (y3, ()))) (fun z0 z1 => J (z0, z1)) c.1 c.2.1 c.2.2 x.1 x.2
def spec_Choose_5_sp (n : Nat) : LSpec T := mkSpec T ⟨[((.reg 8), 3000000, 4)], [0, 1, 2, 8, 9], [3000000]⟩ spec_Choose_5_sv spec_Choose_5_so (List SRadio × Int × Int) (Int × List Bool) spec_Choose_5_emb spec_Choose_5_prj (spec_Choose_5_b n)
noncomputable def spec_Choose_5_c : Code := ((loopCodes spec_Choose_code)[0]?).getD .skip
def spec_Choose_10_sv : List Sv := [.one (.arr 250), .one (.int .i64), .one (.int .i64), .one (.own 3000000 4 false), .one (.own 3000001 3 false), .one (.int .i64)]
def spec_Choose_10_so : List So := [.arr 4 false, .arr 3 false]
def spec_Choose_10_emb (c : List SRadio × Int × Int × List Bool) (x : Int × List Int) : EVs T spec_Choose_10_sv × EOs T spec_Choose_10_so := ((c.1, c.2.1, c.2.2.1, (), (), x.1, ()), (c.2.2.2, x.2, ()))
def spec_Choose_10_prj (y : EVs T spec_Choose_10_sv × EOs T spec_Choose_10_so) : (List SRadio × Int × Int × List Bool) × (Int × List Int) := ((y.1.1, y.1.2.1, y.1.2.2.1, y.2.1), (y.1.2.2.2.2.2.1, y.2.2.1))
def spec_Choose_10_b (n : Nat) {R : Type} (K : Ex → Sm.St T → Option R) (c : List SRadio × Int × Int × List Bool) (x : Int × List Int) (J : (Int × List Int) → Option R) : Option R :=
  spec_Choose_L10 n (fun (y3 : List Int) => K (.exit 2) (stOf (T := T) [0, 1, 2, 10] [3000001] [.one (.arr 250), .one (.int .i64), .one (.int .i64), .one (.own 3000001 3 false)] [.arr 3 false] (c.1, c.2.1, c.2.2.1, (), ()) (y3, ()))) (fun z0 z1 => J (z0, z1)) c.1 c.2.1 c.2.2.1 x.1 c.2.2.2 x.2
def spec_Choose_10_sp (n : Nat) : LSpec T := mkSpec T ⟨[((.reg 8), 3000000, 4), ((.reg 10), 3000001, 3)], [0, 1, 2, 8, 10, 11], [3000000, 3000001]⟩ spec_Choose_10_sv spec_Choose_10_so (List SRadio × Int × Int × List Bool) (Int × List Int) spec_Choose_10_emb spec_Choose_10_prj (spec_Choose_10_b n)
noncomputable def spec_Choose_10_c : Code := ((loopCodes spec_Choose_code)[1]?).getD .skip
def spec_Choose_ann : Ann := fun id => bif Nat.beq id 3000005 then some ⟨[((.reg 8), 3000000, 4)], [0, 1, 2, 8], [3000000]⟩ else bif Nat.beq id 5000010 then some ⟨[((.reg 10), 3000001, 3)], [0, 1, 2, 10], [3000001]⟩ else none
def spec_Choose_Ls (n : Nat) : Nat → Option (LSpec T) := fun id => bif Nat.beq id 5 then some (spec_Choose_5_sp n) else bif Nat.beq id 10 then some (spec_Choose_10_sp n) else none
theorem spec_Choose_5_le (n : Nat) : LoopEq (T := T) (Phi n 12) (spec_Choose_Ls n) spec_Choose_ann n spec_Choose_5_c (spec_Choose_5_sp n) := ⟨mkSpec_dec (fun y => rfl), fun c x => by kernel_rfl, fun K J c x => by kernel_rfl⟩
theorem spec_Choose_10_le (n : Nat) : LoopEq (T := T) (Phi n 12) (spec_Choose_Ls n) spec_Choose_ann n spec_Choose_10_c (spec_Choose_10_sp n) := ⟨mkSpec_dec (fun y => rfl), fun c x => by kernel_rfl, fun K J c x => by kernel_rfl⟩
theorem spec_Choose_tie (n : Nat) (list0 : List SRadio) (at1 : Int) (coin2 : Int) : evF (T := T) (Phi n 12) (spec_Choose_Ls n) spec_Choose_ann n Try.f198 (sg 198) [vA T 136 list0, vA T 3 at1, vA T 3 coin2] spec_Choose_dec = spec_Choose n list0 at1 coin2 := by kernel_rfl
theorem spec_Choose_lo (n : Nat) : LoopsOk (T := T) (Phi n 12) (spec_Choose_Ls n) spec_Choose_ann n spec_Choose_code := loopsOk_all (cs := [spec_Choose_5_c, spec_Choose_10_c]) (by kernel_rfl) ⟨⟨_, by kernel_rfl, spec_Choose_5_le n⟩, ⟨_, by kernel_rfl, spec_Choose_10_le n⟩, trivial⟩
theorem spec_Choose_ok (n : Nat) : EntOk Try.prog (ents n) (spec_Choose_ent n) := by
  intro hs ar y hg h
  replace h : spec_Choose_D n ar = some y := h
  unfold spec_Choose_D at h
  replace h := ocons_some h
  obtain ⟨a0, r0, rfl, h⟩ := h
  replace h := ocons_some h
  obtain ⟨a1, r1, rfl, h⟩ := h
  replace h := ocons_some h
  obtain ⟨a2, r2, rfl, h⟩ := h
  replace h := onil_some h
  obtain ⟨rfl, h⟩ := h
  obtain ⟨list0, qh0, h⟩ := obind_some h
  obtain ⟨at1, qh1, h⟩ := obind_some h
  obtain ⟨coin2, qh2, h⟩ := obind_some h
  rw [argV_eq ok qh0, argV_eq ok qh1, argV_eq ok qh2]
  exact call_of (phiE_nat _ _) hs ok mixed Try.func198 (c := spec_Choose_code) (by kernel_rfl) (spec_Choose_lo n) (by kernel_rfl) (by kernel_rfl) (by kernel_rfl) spec_Choose_de ((spec_Choose_tie n list0 at1 coin2).trans h)
noncomputable def spec_Settle_code : Code := match Try.f94.body with | some c => c | none => .skip
def spec_Settle_5_sv : List Sv := [.one (.arr 3), .one (.own 3000000 250 false), .one (.int .i64)]
def spec_Settle_5_so : List So := [.arr 250 false]
def spec_Settle_5_emb (c : List Int) (x : Int × List SRadio) : EVs T spec_Settle_5_sv × EOs T spec_Settle_5_so := ((c, (), x.1, ()), (x.2, ()))
def spec_Settle_5_prj (y : EVs T spec_Settle_5_sv × EOs T spec_Settle_5_so) : List Int × (Int × List SRadio) := ((y.1.1), (y.1.2.2.1, y.2.1))
def spec_Settle_5_b (n : Nat) {R : Type} (K : Ex → Sm.St T → Option R) (c : List Int) (x : Int × List SRadio) (J : (Int × List SRadio) → Option R) : Option R :=
  spec_Settle_L5 n (fun (y0 : Int) (y1 : List SRadio) => K (.exit 0) (stOf (T := T) [7, 8] [3000000] [.one (.own 3000000 250 false), .one (.int .i64)] [.arr 250 false] ((), y0, ()) (y1, ()))) (fun z0 z1 => J (z0, z1)) c x.1 x.2
def spec_Settle_5_sp (n : Nat) : LSpec T := mkSpec T ⟨[((.reg 7), 3000000, 250)], [1, 7, 8], [3000000]⟩ spec_Settle_5_sv spec_Settle_5_so (List Int) (Int × List SRadio) spec_Settle_5_emb spec_Settle_5_prj (spec_Settle_5_b n)
noncomputable def spec_Settle_5_c : Code := ((loopCodes spec_Settle_code)[0]?).getD .skip
def spec_Settle_ann : Ann := fun id => bif Nat.beq id 3000005 then some ⟨[((.reg 7), 3000000, 250)], [7, 8], [3000000]⟩ else none
def spec_Settle_Ls (n : Nat) : Nat → Option (LSpec T) := fun id => bif Nat.beq id 5 then some (spec_Settle_5_sp n) else none
theorem spec_Settle_5_le (n : Nat) : LoopEq (T := T) (Phi n 13) (spec_Settle_Ls n) spec_Settle_ann n spec_Settle_5_c (spec_Settle_5_sp n) := ⟨mkSpec_dec (fun y => rfl), fun c x => by kernel_rfl, fun K J c x => by kernel_rfl⟩
theorem spec_Settle_tie (n : Nat) (list0 : List SRadio) (coins1 : List Int) : evF (T := T) (Phi n 13) (spec_Settle_Ls n) spec_Settle_ann n Try.f94 (sg 94) [vA T 136 list0, vA T 24 coins1] spec_Settle_dec = spec_Settle n list0 coins1 := by kernel_rfl
theorem spec_Settle_lo (n : Nat) : LoopsOk (T := T) (Phi n 13) (spec_Settle_Ls n) spec_Settle_ann n spec_Settle_code := loopsOk_all (cs := [spec_Settle_5_c]) (by kernel_rfl) ⟨⟨_, by kernel_rfl, spec_Settle_5_le n⟩, trivial⟩
theorem spec_Settle_ok (n : Nat) : EntOk Try.prog (ents n) (spec_Settle_ent n) := by
  intro hs ar y hg h
  replace h : spec_Settle_D n ar = some y := h
  unfold spec_Settle_D at h
  replace h := ocons_some h
  obtain ⟨a0, r0, rfl, h⟩ := h
  replace h := ocons_some h
  obtain ⟨a1, r1, rfl, h⟩ := h
  replace h := onil_some h
  obtain ⟨rfl, h⟩ := h
  obtain ⟨list0, qh0, h⟩ := obind_some h
  obtain ⟨coins1, qh1, h⟩ := obind_some h
  rw [argV_eq ok qh0, argV_eq ok qh1]
  exact call_of (phiE_nat _ _) hs ok mixed Try.func94 (c := spec_Settle_code) (by kernel_rfl) (spec_Settle_lo n) (by kernel_rfl) (by kernel_rfl) (by kernel_rfl) spec_Settle_de ((spec_Settle_tie n list0 coins1).trans h)
noncomputable def impl_in_code : Code := match Try.f113.body with | some c => c | none => .skip
def impl_in_ann : Ann := fun id => none
def impl_in_Ls (n : Nat) : Nat → Option (LSpec T) := fun id => none
theorem impl_in_tie (n : Nat) (n0 : Int) (least1 : Int) (most2 : Int) : evF (T := T) (Phi n 14) (impl_in_Ls n) impl_in_ann n Try.f113 (sg 113) [vA T 3 n0, vA T 3 least1, vA T 3 most2] impl_in_dec = impl_in n n0 least1 most2 := by kernel_rfl
theorem impl_in_lo (n : Nat) : LoopsOk (T := T) (Phi n 14) (impl_in_Ls n) impl_in_ann n impl_in_code := loopsOk_all (cs := []) (by kernel_rfl) trivial
theorem impl_in_ok (n : Nat) : EntOk Try.prog (ents n) (impl_in_ent n) := by
  intro hs ar y hg h
  replace h : impl_in_D n ar = some y := h
  unfold impl_in_D at h
  replace h := ocons_some h
  obtain ⟨a0, r0, rfl, h⟩ := h
  replace h := ocons_some h
  obtain ⟨a1, r1, rfl, h⟩ := h
  replace h := ocons_some h
  obtain ⟨a2, r2, rfl, h⟩ := h
  replace h := onil_some h
  obtain ⟨rfl, h⟩ := h
  obtain ⟨n0, qh0, h⟩ := obind_some h
  obtain ⟨least1, qh1, h⟩ := obind_some h
  obtain ⟨most2, qh2, h⟩ := obind_some h
  rw [argV_eq ok qh0, argV_eq ok qh1, argV_eq ok qh2]
  exact call_of (phiE_nat _ _) hs ok mixed Try.func113 (c := impl_in_code) (by kernel_rfl) (impl_in_lo n) (by kernel_rfl) (by kernel_rfl) (by kernel_rfl) impl_in_de ((impl_in_tie n n0 least1 most2).trans h)
noncomputable def impl_idOk_code : Code := match Try.f244.body with | some c => c | none => .skip
def impl_idOk_ann : Ann := fun id => none
def impl_idOk_Ls (n : Nat) : Nat → Option (LSpec T) := fun id => none
theorem impl_idOk_tie (n : Nat) (n0 : Int) : evF (T := T) (Phi n 15) (impl_idOk_Ls n) impl_idOk_ann n Try.f244 (sg 244) [vA T 3 n0] impl_idOk_dec = impl_idOk n n0 := by kernel_rfl
theorem impl_idOk_lo (n : Nat) : LoopsOk (T := T) (Phi n 15) (impl_idOk_Ls n) impl_idOk_ann n impl_idOk_code := loopsOk_all (cs := []) (by kernel_rfl) trivial
theorem impl_idOk_ok (n : Nat) : EntOk Try.prog (ents n) (impl_idOk_ent n) := by
  intro hs ar y hg h
  replace h : impl_idOk_D n ar = some y := h
  unfold impl_idOk_D at h
  replace h := ocons_some h
  obtain ⟨a0, r0, rfl, h⟩ := h
  replace h := onil_some h
  obtain ⟨rfl, h⟩ := h
  obtain ⟨n0, qh0, h⟩ := obind_some h
  rw [argV_eq ok qh0]
  exact call_of (phiE_nat _ _) hs ok mixed Try.func244 (c := impl_idOk_code) (by kernel_rfl) (impl_idOk_lo n) (by kernel_rfl) (by kernel_rfl) (by kernel_rfl) impl_idOk_de ((impl_idOk_tie n n0).trans h)
noncomputable def impl_slotOk_code : Code := match Try.f245.body with | some c => c | none => .skip
def impl_slotOk_ann : Ann := fun id => none
def impl_slotOk_Ls (n : Nat) : Nat → Option (LSpec T) := fun id => none
theorem impl_slotOk_tie (n : Nat) (n0 : Int) : evF (T := T) (Phi n 16) (impl_slotOk_Ls n) impl_slotOk_ann n Try.f245 (sg 245) [vA T 3 n0] impl_slotOk_dec = impl_slotOk n n0 := by kernel_rfl
theorem impl_slotOk_lo (n : Nat) : LoopsOk (T := T) (Phi n 16) (impl_slotOk_Ls n) impl_slotOk_ann n impl_slotOk_code := loopsOk_all (cs := []) (by kernel_rfl) trivial
theorem impl_slotOk_ok (n : Nat) : EntOk Try.prog (ents n) (impl_slotOk_ent n) := by
  intro hs ar y hg h
  replace h : impl_slotOk_D n ar = some y := h
  unfold impl_slotOk_D at h
  replace h := ocons_some h
  obtain ⟨a0, r0, rfl, h⟩ := h
  replace h := onil_some h
  obtain ⟨rfl, h⟩ := h
  obtain ⟨n0, qh0, h⟩ := obind_some h
  rw [argV_eq ok qh0]
  exact call_of (phiE_nat _ _) hs ok mixed Try.func245 (c := impl_slotOk_code) (by kernel_rfl) (impl_slotOk_lo n) (by kernel_rfl) (by kernel_rfl) (by kernel_rfl) impl_slotOk_de ((impl_slotOk_tie n n0).trans h)
noncomputable def slices_Index_int_int_code : Code := match Try.f214.body with | some c => c | none => .skip
def slices_Index_int_int_2_sv : List Sv := [.one (.arr 3), .one (.int .i64), .one (.int .i64), .one (.int .i64)]
def slices_Index_int_int_2_so : List So := []
def slices_Index_int_int_2_emb (c : List Int × Int × Int) (x : Int) : EVs T slices_Index_int_int_2_sv × EOs T slices_Index_int_int_2_so := ((c.1, c.2.1, c.2.2, x, ()), ())
def slices_Index_int_int_2_prj (y : EVs T slices_Index_int_int_2_sv × EOs T slices_Index_int_int_2_so) : (List Int × Int × Int) × Int := ((y.1.1, y.1.2.1, y.1.2.2.1), (y.1.2.2.2.1))
def slices_Index_int_int_2_b (n : Nat) {R : Type} (K : Ex → Sm.St T → Option R) (c : List Int × Int × Int) (x : Int) (J : Int → Option R) : Option R :=
  slices_Index_int_int_L2 n (K (.exit 0) (stOf (T := T) [] [] [] [] () ())) (fun (y0 : Int) => K .ret (stOf (T := T) [4] [] [.one (.int .i64)] [] (y0, ()) ())) J c.1 c.2.1 c.2.2 x
def slices_Index_int_int_2_sp (n : Nat) : LSpec T := mkSpec T ⟨[], [0, 1, 7, 8], []⟩ slices_Index_int_int_2_sv slices_Index_int_int_2_so (List Int × Int × Int) (Int) slices_Index_int_int_2_emb slices_Index_int_int_2_prj (slices_Index_int_int_2_b n)
noncomputable def slices_Index_int_int_2_c : Code := ((loopCodes slices_Index_int_int_code)[0]?).getD .skip
def slices_Index_int_int_ann : Ann := fun id => bif Nat.beq id 3000002 then some ⟨[], [], []⟩ else bif Nat.beq id 2000002 then some ⟨[], [4], []⟩ else none
def slices_Index_int_int_Ls (n : Nat) : Nat → Option (LSpec T) := fun id => bif Nat.beq id 2 then some (slices_Index_int_int_2_sp n) else none
theorem slices_Index_int_int_2_le (n : Nat) : LoopEq (T := T) (Phi n 17) (slices_Index_int_int_Ls n) slices_Index_int_int_ann n slices_Index_int_int_2_c (slices_Index_int_int_2_sp n) := ⟨mkSpec_dec (fun y => rfl), fun c x => by kernel_rfl, fun K J c x => by kernel_rfl⟩
theorem slices_Index_int_int_tie (n : Nat) (s0 : List Int) (v1 : Int) : evF (T := T) (Phi n 17) (slices_Index_int_int_Ls n) slices_Index_int_int_ann n Try.f214 (sg 214) [vA T 24 s0, vA T 3 v1] slices_Index_int_int_dec = slices_Index_int_int n s0 v1 := by kernel_rfl
theorem slices_Index_int_int_lo (n : Nat) : LoopsOk (T := T) (Phi n 17) (slices_Index_int_int_Ls n) slices_Index_int_int_ann n slices_Index_int_int_code := loopsOk_all (cs := [slices_Index_int_int_2_c]) (by kernel_rfl) ⟨⟨_, by kernel_rfl, slices_Index_int_int_2_le n⟩, trivial⟩
theorem slices_Index_int_int_ok (n : Nat) : EntOk Try.prog (ents n) (slices_Index_int_int_ent n) := by
  intro hs ar y hg h
  replace h : slices_Index_int_int_D n ar = some y := h
  unfold slices_Index_int_int_D at h
  replace h := ocons_some h
  obtain ⟨a0, r0, rfl, h⟩ := h
  replace h := ocons_some h
  obtain ⟨a1, r1, rfl, h⟩ := h
  replace h := onil_some h
  obtain ⟨rfl, h⟩ := h
  obtain ⟨s0, qh0, h⟩ := obind_some h
  obtain ⟨v1, qh1, h⟩ := obind_some h
  rw [argV_eq ok qh0, argV_eq ok qh1]
  exact call_of (phiE_nat _ _) hs ok mixed Try.func214 (c := slices_Index_int_int_code) (by kernel_rfl) (slices_Index_int_int_lo n) (by kernel_rfl) (by kernel_rfl) (by kernel_rfl) slices_Index_int_int_de ((slices_Index_int_int_tie n s0 v1).trans h)
noncomputable def slices_Contains_int_int_code : Code := match Try.f114.body with | some c => c | none => .skip
def slices_Contains_int_int_ann : Ann := fun id => none
def slices_Contains_int_int_Ls (n : Nat) : Nat → Option (LSpec T) := fun id => none
theorem slices_Contains_int_int_tie (n : Nat) (s0 : List Int) (v1 : Int) : evF (T := T) (Phi n 18) (slices_Contains_int_int_Ls n) slices_Contains_int_int_ann n Try.f114 (sg 114) [vA T 24 s0, vA T 3 v1] slices_Contains_int_int_dec = slices_Contains_int_int n s0 v1 := by kernel_rfl
theorem slices_Contains_int_int_lo (n : Nat) : LoopsOk (T := T) (Phi n 18) (slices_Contains_int_int_Ls n) slices_Contains_int_int_ann n slices_Contains_int_int_code := loopsOk_all (cs := []) (by kernel_rfl) trivial
theorem slices_Contains_int_int_ok (n : Nat) : EntOk Try.prog (ents n) (slices_Contains_int_int_ent n) := by
  intro hs ar y hg h
  replace h : slices_Contains_int_int_D n ar = some y := h
  unfold slices_Contains_int_int_D at h
  replace h := ocons_some h
  obtain ⟨a0, r0, rfl, h⟩ := h
  replace h := ocons_some h
  obtain ⟨a1, r1, rfl, h⟩ := h
  replace h := onil_some h
  obtain ⟨rfl, h⟩ := h
  obtain ⟨s0, qh0, h⟩ := obind_some h
  obtain ⟨v1, qh1, h⟩ := obind_some h
  rw [argV_eq ok qh0, argV_eq ok qh1]
  exact call_of (phiE_nat _ _) hs ok mixed Try.func114 (c := slices_Contains_int_int_code) (by kernel_rfl) (slices_Contains_int_int_lo n) (by kernel_rfl) (by kernel_rfl) (by kernel_rfl) slices_Contains_int_int_de ((slices_Contains_int_int_tie n s0 v1).trans h)
noncomputable def impl_RadiosOk_code : Code := match Try.f200.body with | some c => c | none => .skip
def impl_RadiosOk_4_sv : List Sv := [.one (.arr 250), .one (.arr 250), .one (.int .i64), .one (.int .i64)]
def impl_RadiosOk_4_so : List So := []
def impl_RadiosOk_4_emb (c : List SRadio × List SRadio × Int) (x : Int) : EVs T impl_RadiosOk_4_sv × EOs T impl_RadiosOk_4_so := ((c.1, c.2.1, c.2.2, x, ()), ())
def impl_RadiosOk_4_prj (y : EVs T impl_RadiosOk_4_sv × EOs T impl_RadiosOk_4_so) : (List SRadio × List SRadio × Int) × Int := ((y.1.1, y.1.2.1, y.1.2.2.1), (y.1.2.2.2.1))
def impl_RadiosOk_4_b (n : Nat) {R : Type} (K : Ex → Sm.St T → Option R) (c : List SRadio × List SRadio × Int) (x : Int) (J : Int → Option R) : Option R :=
  impl_RadiosOk_L4 n (K (.exit 0) (stOf (T := T) [] [] [] [] () ())) (fun (y0 : Bool) => K .ret (stOf (T := T) [2] [] [.one (.bool)] [] (y0, ()) ())) J c.1 c.2.1 c.2.2 x
def impl_RadiosOk_4_sp (n : Nat) : LSpec T := mkSpec T ⟨[], [0, 11, 12, 13], []⟩ impl_RadiosOk_4_sv impl_RadiosOk_4_so (List SRadio × List SRadio × Int) (Int) impl_RadiosOk_4_emb impl_RadiosOk_4_prj (impl_RadiosOk_4_b n)
noncomputable def impl_RadiosOk_4_c : Code := ((loopCodes impl_RadiosOk_code)[0]?).getD .skip
def impl_RadiosOk_9_sv : List Sv := [.one (.arr 250), .one (.int .i64), .one (.ptr 32 0 0), .one (.arr 250), .one (.int .i64), .one (.int .i64), .one (.arr 3), .one (.int .i64), .one (.int .i64)]
def impl_RadiosOk_9_so : List So := [.var [.int .i64, .int .i64, .arr 3]]
def impl_RadiosOk_9_emb (c : List SRadio × Int × List SRadio × Int × Int × List Int × Int × SRadio) (x : Int) : EVs T impl_RadiosOk_9_sv × EOs T impl_RadiosOk_9_so := ((c.1, c.2.1, (), c.2.2.1, c.2.2.2.1, c.2.2.2.2.1, c.2.2.2.2.2.1, c.2.2.2.2.2.2.1, x, ()), ((c.2.2.2.2.2.2.2.Id, c.2.2.2.2.2.2.2.Slot, c.2.2.2.2.2.2.2.Hears, ()), ()))
def impl_RadiosOk_9_prj (y : EVs T impl_RadiosOk_9_sv × EOs T impl_RadiosOk_9_so) : (List SRadio × Int × List SRadio × Int × Int × List Int × Int × SRadio) × Int := ((y.1.1, y.1.2.1, y.1.2.2.2.1, y.1.2.2.2.2.1, y.1.2.2.2.2.2.1, y.1.2.2.2.2.2.2.1, y.1.2.2.2.2.2.2.2.1, ((⟨y.2.1.1, y.2.1.2.1, y.2.1.2.2.1⟩ : SRadio) : SRadio)), (y.1.2.2.2.2.2.2.2.2.1))
def impl_RadiosOk_9_b (n : Nat) {R : Type} (K : Ex → Sm.St T → Option R) (c : List SRadio × Int × List SRadio × Int × Int × List Int × Int × SRadio) (x : Int) (J : Int → Option R) : Option R :=
  impl_RadiosOk_L9 n (K (.exit 2) (stOf (T := T) [0, 11, 12, 13] [] [.one (.arr 250), .one (.arr 250), .one (.int .i64), .one (.int .i64)] [] (c.1, c.2.2.1, c.2.2.2.1, c.2.2.2.2.1, ()) ())) (fun (y0 : Bool) => K .ret (stOf (T := T) [2] [] [.one (.bool)] [] (y0, ()) ())) J c.1 c.2.1 c.2.2.1 c.2.2.2.1 c.2.2.2.2.1 c.2.2.2.2.2.1 c.2.2.2.2.2.2.1 x c.2.2.2.2.2.2.2
def impl_RadiosOk_9_sp (n : Nat) : LSpec T := mkSpec T ⟨[], [0, 3, 4, 11, 12, 13, 44, 45, 46], [32]⟩ impl_RadiosOk_9_sv impl_RadiosOk_9_so (List SRadio × Int × List SRadio × Int × Int × List Int × Int × SRadio) (Int) impl_RadiosOk_9_emb impl_RadiosOk_9_prj (impl_RadiosOk_9_b n)
noncomputable def impl_RadiosOk_9_c : Code := ((loopCodes impl_RadiosOk_code)[1]?).getD .skip
def impl_RadiosOk_ann : Ann := fun id => bif Nat.beq id 3000004 then some ⟨[], [], []⟩ else bif Nat.beq id 2000004 then some ⟨[], [2], []⟩ else bif Nat.beq id 5000009 then some ⟨[], [0, 11, 12, 13], []⟩ else bif Nat.beq id 2000009 then some ⟨[], [2], []⟩ else none
def impl_RadiosOk_Ls (n : Nat) : Nat → Option (LSpec T) := fun id => bif Nat.beq id 4 then some (impl_RadiosOk_4_sp n) else bif Nat.beq id 9 then some (impl_RadiosOk_9_sp n) else none
theorem impl_RadiosOk_4_le (n : Nat) : LoopEq (T := T) (Phi n 19) (impl_RadiosOk_Ls n) impl_RadiosOk_ann n impl_RadiosOk_4_c (impl_RadiosOk_4_sp n) := ⟨mkSpec_dec (fun y => rfl), fun c x => by kernel_rfl, fun K J c x => by kernel_rfl⟩
theorem impl_RadiosOk_9_le (n : Nat) : LoopEq (T := T) (Phi n 19) (impl_RadiosOk_Ls n) impl_RadiosOk_ann n impl_RadiosOk_9_c (impl_RadiosOk_9_sp n) := ⟨mkSpec_dec (fun y => rfl), fun c x => by kernel_rfl, fun K J c x => by kernel_rfl⟩
theorem impl_RadiosOk_tie (n : Nat) (list0 : List SRadio) : evF (T := T) (Phi n 19) (impl_RadiosOk_Ls n) impl_RadiosOk_ann n Try.f200 (sg 200) [vA T 136 list0] impl_RadiosOk_dec = impl_RadiosOk n list0 := by kernel_rfl
theorem impl_RadiosOk_lo (n : Nat) : LoopsOk (T := T) (Phi n 19) (impl_RadiosOk_Ls n) impl_RadiosOk_ann n impl_RadiosOk_code := loopsOk_all (cs := [impl_RadiosOk_4_c, impl_RadiosOk_9_c]) (by kernel_rfl) ⟨⟨_, by kernel_rfl, impl_RadiosOk_4_le n⟩, ⟨_, by kernel_rfl, impl_RadiosOk_9_le n⟩, trivial⟩
theorem impl_RadiosOk_ok (n : Nat) : EntOk Try.prog (ents n) (impl_RadiosOk_ent n) := by
  intro hs ar y hg h
  replace h : impl_RadiosOk_D n ar = some y := h
  unfold impl_RadiosOk_D at h
  replace h := ocons_some h
  obtain ⟨a0, r0, rfl, h⟩ := h
  replace h := onil_some h
  obtain ⟨rfl, h⟩ := h
  obtain ⟨list0, qh0, h⟩ := obind_some h
  rw [argV_eq ok qh0]
  exact call_of (phiE_nat _ _) hs ok mixed Try.func200 (c := impl_RadiosOk_code) (by kernel_rfl) (impl_RadiosOk_lo n) (by kernel_rfl) (by kernel_rfl) (by kernel_rfl) impl_RadiosOk_de ((impl_RadiosOk_tie n list0).trans h)
noncomputable def impl_Settle_1_code : Code := match Try.f202.body with | some c => c | none => .skip
def impl_Settle_1_ann : Ann := fun id => none
def impl_Settle_1_Ls (n : Nat) : Nat → Option (LSpec T) := fun id => none
theorem impl_Settle_1_tie (n : Nat) (c0 : Int) : evF (T := T) (Phi n 20) (impl_Settle_1_Ls n) impl_Settle_1_ann n Try.f202 (sg 202) [vA T 3 c0] impl_Settle_1_dec = impl_Settle_1 n c0 := by kernel_rfl
theorem impl_Settle_1_lo (n : Nat) : LoopsOk (T := T) (Phi n 20) (impl_Settle_1_Ls n) impl_Settle_1_ann n impl_Settle_1_code := loopsOk_all (cs := []) (by kernel_rfl) trivial
theorem impl_Settle_1_ok (n : Nat) : EntOk Try.prog (ents n) (impl_Settle_1_ent n) := by
  intro hs ar y hg h
  replace h : impl_Settle_1_D n ar = some y := h
  unfold impl_Settle_1_D at h
  replace h := ocons_some h
  obtain ⟨a0, r0, rfl, h⟩ := h
  replace h := onil_some h
  obtain ⟨rfl, h⟩ := h
  obtain ⟨c0, qh0, h⟩ := obind_some h
  rw [argV_eq ok qh0]
  exact call_of (phiE_nat _ _) hs ok mixed Try.func202 (c := impl_Settle_1_code) (by kernel_rfl) (impl_Settle_1_lo n) (by kernel_rfl) (by kernel_rfl) (by kernel_rfl) impl_Settle_1_de ((impl_Settle_1_tie n c0).trans h)
noncomputable def slices_IndexFunc_int_int__impl_Settle_1_code : Code := match Try.f246.body with | some c => c | none => .skip
def slices_IndexFunc_int_int__impl_Settle_1_2_sv : List Sv := [.one (.arr 3), .one (.fn 202 []), .one (.int .i64), .one (.int .i64)]
def slices_IndexFunc_int_int__impl_Settle_1_2_so : List So := []
def slices_IndexFunc_int_int__impl_Settle_1_2_emb (c : List Int × Int) (x : Int) : EVs T slices_IndexFunc_int_int__impl_Settle_1_2_sv × EOs T slices_IndexFunc_int_int__impl_Settle_1_2_so := ((c.1, (), c.2, x, ()), ())
def slices_IndexFunc_int_int__impl_Settle_1_2_prj (y : EVs T slices_IndexFunc_int_int__impl_Settle_1_2_sv × EOs T slices_IndexFunc_int_int__impl_Settle_1_2_so) : (List Int × Int) × Int := ((y.1.1, y.1.2.2.1), (y.1.2.2.2.1))
def slices_IndexFunc_int_int__impl_Settle_1_2_b (n : Nat) {R : Type} (K : Ex → Sm.St T → Option R) (c : List Int × Int) (x : Int) (J : Int → Option R) : Option R :=
  slices_IndexFunc_int_int__impl_Settle_1_L2 n (K (.exit 0) (stOf (T := T) [] [] [] [] () ())) (fun (y0 : Int) => K .ret (stOf (T := T) [4] [] [.one (.int .i64)] [] (y0, ()) ())) J c.1 c.2 x
def slices_IndexFunc_int_int__impl_Settle_1_2_sp (n : Nat) : LSpec T := mkSpec T ⟨[], [0, 1, 7, 8], []⟩ slices_IndexFunc_int_int__impl_Settle_1_2_sv slices_IndexFunc_int_int__impl_Settle_1_2_so (List Int × Int) (Int) slices_IndexFunc_int_int__impl_Settle_1_2_emb slices_IndexFunc_int_int__impl_Settle_1_2_prj (slices_IndexFunc_int_int__impl_Settle_1_2_b n)
noncomputable def slices_IndexFunc_int_int__impl_Settle_1_2_c : Code := ((loopCodes slices_IndexFunc_int_int__impl_Settle_1_code)[0]?).getD .skip
def slices_IndexFunc_int_int__impl_Settle_1_ann : Ann := fun id => bif Nat.beq id 3000002 then some ⟨[], [], []⟩ else bif Nat.beq id 2000002 then some ⟨[], [4], []⟩ else none
def slices_IndexFunc_int_int__impl_Settle_1_Ls (n : Nat) : Nat → Option (LSpec T) := fun id => bif Nat.beq id 2 then some (slices_IndexFunc_int_int__impl_Settle_1_2_sp n) else none
theorem slices_IndexFunc_int_int__impl_Settle_1_2_le (n : Nat) : LoopEq (T := T) (Phi n 21) (slices_IndexFunc_int_int__impl_Settle_1_Ls n) slices_IndexFunc_int_int__impl_Settle_1_ann n slices_IndexFunc_int_int__impl_Settle_1_2_c (slices_IndexFunc_int_int__impl_Settle_1_2_sp n) := ⟨mkSpec_dec (fun y => rfl), fun c x => by kernel_rfl, fun K J c x => by kernel_rfl⟩
theorem slices_IndexFunc_int_int__impl_Settle_1_tie (n : Nat) (s0 : List Int) : evF (T := T) (Phi n 21) (slices_IndexFunc_int_int__impl_Settle_1_Ls n) slices_IndexFunc_int_int__impl_Settle_1_ann n Try.f246 (sg 246) [vA T 24 s0, .fn 202 []] slices_IndexFunc_int_int__impl_Settle_1_dec = slices_IndexFunc_int_int__impl_Settle_1 n s0 := by kernel_rfl
theorem slices_IndexFunc_int_int__impl_Settle_1_lo (n : Nat) : LoopsOk (T := T) (Phi n 21) (slices_IndexFunc_int_int__impl_Settle_1_Ls n) slices_IndexFunc_int_int__impl_Settle_1_ann n slices_IndexFunc_int_int__impl_Settle_1_code := loopsOk_all (cs := [slices_IndexFunc_int_int__impl_Settle_1_2_c]) (by kernel_rfl) ⟨⟨_, by kernel_rfl, slices_IndexFunc_int_int__impl_Settle_1_2_le n⟩, trivial⟩
theorem slices_IndexFunc_int_int__impl_Settle_1_ok (n : Nat) : EntOk Try.prog (ents n) (slices_IndexFunc_int_int__impl_Settle_1_ent n) := by
  intro hs ar y hg h
  replace h : slices_IndexFunc_int_int__impl_Settle_1_D n ar = some y := h
  unfold slices_IndexFunc_int_int__impl_Settle_1_D at h
  split at h
  · obtain ⟨s0, qh0, h⟩ := obind_some h
    rw [argV_eq ok qh0] at hg ⊢
    cases (show [_] = [202] from natsEq_eq hg)
    exact call_of (phiE_nat _ _) hs ok mixed Try.func246 (c := slices_IndexFunc_int_int__impl_Settle_1_code) (by kernel_rfl) (slices_IndexFunc_int_int__impl_Settle_1_lo n) (by kernel_rfl) (by kernel_rfl) (by kernel_rfl) slices_IndexFunc_int_int__impl_Settle_1_de ((slices_IndexFunc_int_int__impl_Settle_1_tie n s0).trans h)
  · cases h
noncomputable def slices_ContainsFunc_int_int__impl_Settle_1_code : Code := match Try.f201.body with | some c => c | none => .skip
def slices_ContainsFunc_int_int__impl_Settle_1_ann : Ann := fun id => none
def slices_ContainsFunc_int_int__impl_Settle_1_Ls (n : Nat) : Nat → Option (LSpec T) := fun id => none
theorem slices_ContainsFunc_int_int__impl_Settle_1_tie (n : Nat) (s0 : List Int) : evF (T := T) (Phi n 22) (slices_ContainsFunc_int_int__impl_Settle_1_Ls n) slices_ContainsFunc_int_int__impl_Settle_1_ann n Try.f201 (sg 201) [vA T 24 s0, .fn 202 []] slices_ContainsFunc_int_int__impl_Settle_1_dec = slices_ContainsFunc_int_int__impl_Settle_1 n s0 := by kernel_rfl
theorem slices_ContainsFunc_int_int__impl_Settle_1_lo (n : Nat) : LoopsOk (T := T) (Phi n 22) (slices_ContainsFunc_int_int__impl_Settle_1_Ls n) slices_ContainsFunc_int_int__impl_Settle_1_ann n slices_ContainsFunc_int_int__impl_Settle_1_code := loopsOk_all (cs := []) (by kernel_rfl) trivial
theorem slices_ContainsFunc_int_int__impl_Settle_1_ok (n : Nat) : EntOk Try.prog (ents n) (slices_ContainsFunc_int_int__impl_Settle_1_ent n) := by
  intro hs ar y hg h
  replace h : slices_ContainsFunc_int_int__impl_Settle_1_D n ar = some y := h
  unfold slices_ContainsFunc_int_int__impl_Settle_1_D at h
  split at h
  · obtain ⟨s0, qh0, h⟩ := obind_some h
    rw [argV_eq ok qh0] at hg ⊢
    cases (show [_] = [202] from natsEq_eq hg)
    exact call_of (phiE_nat _ _) hs ok mixed Try.func201 (c := slices_ContainsFunc_int_int__impl_Settle_1_code) (by kernel_rfl) (slices_ContainsFunc_int_int__impl_Settle_1_lo n) (by kernel_rfl) (by kernel_rfl) (by kernel_rfl) slices_ContainsFunc_int_int__impl_Settle_1_de ((slices_ContainsFunc_int_int__impl_Settle_1_tie n s0).trans h)
  · cases h
noncomputable def impl_own_impl_Radio_code : Code := match Try.f203.body with | some c => c | none => .skip
def impl_own_impl_Radio_ann : Ann := fun id => none
def impl_own_impl_Radio_Ls (n : Nat) : Nat → Option (LSpec T) := fun id => none
theorem impl_own_impl_Radio_tie (n : Nat) (l0 : List SRadio) : evF (T := T) (Phi n 23) (impl_own_impl_Radio_Ls n) impl_own_impl_Radio_ann n Try.f203 (sg 203) [vA T 136 l0] impl_own_impl_Radio_dec = impl_own_impl_Radio n l0 := by kernel_rfl
theorem impl_own_impl_Radio_lo (n : Nat) : LoopsOk (T := T) (Phi n 23) (impl_own_impl_Radio_Ls n) impl_own_impl_Radio_ann n impl_own_impl_Radio_code := loopsOk_all (cs := []) (by kernel_rfl) trivial
theorem impl_own_impl_Radio_ok (n : Nat) : EntOk Try.prog (ents n) (impl_own_impl_Radio_ent n) := by
  intro hs ar y hg h
  replace h : impl_own_impl_Radio_D n ar = some y := h
  unfold impl_own_impl_Radio_D at h
  replace h := ocons_some h
  obtain ⟨a0, r0, rfl, h⟩ := h
  replace h := onil_some h
  obtain ⟨rfl, h⟩ := h
  obtain ⟨l0, qh0, h⟩ := obind_some h
  rw [argV_eq ok qh0]
  exact call_of (phiE_nat _ _) hs ok mixed Try.func203 (c := impl_own_impl_Radio_code) (by kernel_rfl) (impl_own_impl_Radio_lo n) (by kernel_rfl) (by kernel_rfl) (by kernel_rfl) impl_own_impl_Radio_de ((impl_own_impl_Radio_tie n l0).trans h)
noncomputable def impl_own_int_code : Code := match Try.f106.body with | some c => c | none => .skip
def impl_own_int_ann : Ann := fun id => none
def impl_own_int_Ls (n : Nat) : Nat → Option (LSpec T) := fun id => none
theorem impl_own_int_tie (n : Nat) (l0 : List Int) : evF (T := T) (Phi n 24) (impl_own_int_Ls n) impl_own_int_ann n Try.f106 (sg 106) [vA T 24 l0] impl_own_int_dec = impl_own_int n l0 := by kernel_rfl
theorem impl_own_int_lo (n : Nat) : LoopsOk (T := T) (Phi n 24) (impl_own_int_Ls n) impl_own_int_ann n impl_own_int_code := loopsOk_all (cs := []) (by kernel_rfl) trivial
theorem impl_own_int_ok (n : Nat) : EntOk Try.prog (ents n) (impl_own_int_ent n) := by
  intro hs ar y hg h
  replace h : impl_own_int_D n ar = some y := h
  unfold impl_own_int_D at h
  replace h := ocons_some h
  obtain ⟨a0, r0, rfl, h⟩ := h
  replace h := onil_some h
  obtain ⟨rfl, h⟩ := h
  obtain ⟨l0, qh0, h⟩ := obind_some h
  rw [argV_eq ok qh0]
  exact call_of (phiE_nat _ _) hs ok mixed Try.func106 (c := impl_own_int_code) (by kernel_rfl) (impl_own_int_lo n) (by kernel_rfl) (by kernel_rfl) (by kernel_rfl) impl_own_int_de ((impl_own_int_tie n l0).trans h)
noncomputable def impl_Clashes_1_code : Code := match Try.f247.body with | some c => c | none => .skip
def impl_Clashes_1_ann : Ann := fun id => none
def impl_Clashes_1_Ls (n : Nat) : Nat → Option (LSpec T) := fun id => none
theorem impl_Clashes_1_tie (n : Nat) (h0 : Int) (a1 : List SRadio) (a2 : SRadio) : evF (T := T) (Phi n 25) (impl_Clashes_1_Ls n) impl_Clashes_1_ann n Try.f247 (sg 247) [vA T 3 h0, .ptr 136 a1, .ptr 250 a2] impl_Clashes_1_dec = impl_Clashes_1 n h0 a1 a2 := by kernel_rfl
theorem impl_Clashes_1_lo (n : Nat) : LoopsOk (T := T) (Phi n 25) (impl_Clashes_1_Ls n) impl_Clashes_1_ann n impl_Clashes_1_code := loopsOk_all (cs := []) (by kernel_rfl) trivial
theorem impl_Clashes_1_ok (n : Nat) : EntOk Try.prog (ents n) (impl_Clashes_1_ent n) := by
  intro hs ar y hg h
  replace h : impl_Clashes_1_D n ar = some y := h
  unfold impl_Clashes_1_D at h
  replace h := ocons_some h
  obtain ⟨a0, r0, rfl, h⟩ := h
  replace h := ocons_some h
  obtain ⟨a1, r1, rfl, h⟩ := h
  replace h := ocons_some h
  obtain ⟨a2, r2, rfl, h⟩ := h
  replace h := onil_some h
  obtain ⟨rfl, h⟩ := h
  obtain ⟨h0, qh0, h⟩ := obind_some h
  obtain ⟨a1, qh1, h⟩ := obind_some h
  obtain ⟨a2, qh2, h⟩ := obind_some h
  rw [argV_eq ok qh0, argP_eq qh1, argP_eq qh2]
  exact call_of (phiE_nat _ _) hs ok mixed Try.func247 (c := impl_Clashes_1_code) (by kernel_rfl) (impl_Clashes_1_lo n) (by kernel_rfl) (by kernel_rfl) (by kernel_rfl) impl_Clashes_1_de ((impl_Clashes_1_tie n h0 a1 a2).trans h)
noncomputable def slices_IndexFunc_int_int__impl_Clashes_1_code : Code := match Try.f246.body with | some c => c | none => .skip
def slices_IndexFunc_int_int__impl_Clashes_1_2_sv : List Sv := [.one (.arr 3), .one (.fnr 247 [136, 250]), .one (.int .i64), .one (.int .i64)]
def slices_IndexFunc_int_int__impl_Clashes_1_2_so : List So := []
def slices_IndexFunc_int_int__impl_Clashes_1_2_emb (c : List Int × List SRadio × SRadio × Int) (x : Int) : EVs T slices_IndexFunc_int_int__impl_Clashes_1_2_sv × EOs T slices_IndexFunc_int_int__impl_Clashes_1_2_so := ((c.1, (c.2.1, c.2.2.1, ()), c.2.2.2, x, ()), ())
def slices_IndexFunc_int_int__impl_Clashes_1_2_prj (y : EVs T slices_IndexFunc_int_int__impl_Clashes_1_2_sv × EOs T slices_IndexFunc_int_int__impl_Clashes_1_2_so) : (List Int × List SRadio × SRadio × Int) × Int := ((y.1.1, y.1.2.1.1, y.1.2.1.2.1, y.1.2.2.1), (y.1.2.2.2.1))
def slices_IndexFunc_int_int__impl_Clashes_1_2_b (n : Nat) {R : Type} (K : Ex → Sm.St T → Option R) (c : List Int × List SRadio × SRadio × Int) (x : Int) (J : Int → Option R) : Option R :=
  slices_IndexFunc_int_int__impl_Clashes_1_L2 n (K (.exit 0) (stOf (T := T) [] [] [] [] () ())) (fun (y0 : Int) => K .ret (stOf (T := T) [4] [] [.one (.int .i64)] [] (y0, ()) ())) J c.1 c.2.1 c.2.2.1 c.2.2.2 x
def slices_IndexFunc_int_int__impl_Clashes_1_2_sp (n : Nat) : LSpec T := mkSpec T ⟨[], [0, 1, 7, 8], []⟩ slices_IndexFunc_int_int__impl_Clashes_1_2_sv slices_IndexFunc_int_int__impl_Clashes_1_2_so (List Int × List SRadio × SRadio × Int) (Int) slices_IndexFunc_int_int__impl_Clashes_1_2_emb slices_IndexFunc_int_int__impl_Clashes_1_2_prj (slices_IndexFunc_int_int__impl_Clashes_1_2_b n)
noncomputable def slices_IndexFunc_int_int__impl_Clashes_1_2_c : Code := ((loopCodes slices_IndexFunc_int_int__impl_Clashes_1_code)[0]?).getD .skip
def slices_IndexFunc_int_int__impl_Clashes_1_ann : Ann := fun id => bif Nat.beq id 3000002 then some ⟨[], [], []⟩ else bif Nat.beq id 2000002 then some ⟨[], [4], []⟩ else none
def slices_IndexFunc_int_int__impl_Clashes_1_Ls (n : Nat) : Nat → Option (LSpec T) := fun id => bif Nat.beq id 2 then some (slices_IndexFunc_int_int__impl_Clashes_1_2_sp n) else none
theorem slices_IndexFunc_int_int__impl_Clashes_1_2_le (n : Nat) : LoopEq (T := T) (Phi n 26) (slices_IndexFunc_int_int__impl_Clashes_1_Ls n) slices_IndexFunc_int_int__impl_Clashes_1_ann n slices_IndexFunc_int_int__impl_Clashes_1_2_c (slices_IndexFunc_int_int__impl_Clashes_1_2_sp n) := ⟨mkSpec_dec (fun y => rfl), fun c x => by kernel_rfl, fun K J c x => by kernel_rfl⟩
theorem slices_IndexFunc_int_int__impl_Clashes_1_tie (n : Nat) (s0 : List Int) (f1c0 : List SRadio) (f1c1 : SRadio) : evF (T := T) (Phi n 26) (slices_IndexFunc_int_int__impl_Clashes_1_Ls n) slices_IndexFunc_int_int__impl_Clashes_1_ann n Try.f246 (sg 246) [vA T 24 s0, .fn 247 [.ptr 136 f1c0, .ptr 250 f1c1]] slices_IndexFunc_int_int__impl_Clashes_1_dec = slices_IndexFunc_int_int__impl_Clashes_1 n s0 f1c0 f1c1 := by kernel_rfl
theorem slices_IndexFunc_int_int__impl_Clashes_1_lo (n : Nat) : LoopsOk (T := T) (Phi n 26) (slices_IndexFunc_int_int__impl_Clashes_1_Ls n) slices_IndexFunc_int_int__impl_Clashes_1_ann n slices_IndexFunc_int_int__impl_Clashes_1_code := loopsOk_all (cs := [slices_IndexFunc_int_int__impl_Clashes_1_2_c]) (by kernel_rfl) ⟨⟨_, by kernel_rfl, slices_IndexFunc_int_int__impl_Clashes_1_2_le n⟩, trivial⟩
theorem slices_IndexFunc_int_int__impl_Clashes_1_ok (n : Nat) : EntOk Try.prog (ents n) (slices_IndexFunc_int_int__impl_Clashes_1_ent n) := by
  intro hs ar y hg h
  replace h : slices_IndexFunc_int_int__impl_Clashes_1_D n ar = some y := h
  unfold slices_IndexFunc_int_int__impl_Clashes_1_D at h
  split at h
  · obtain ⟨s0, qh0, h⟩ := obind_some h
    obtain ⟨f1c0, qh1, h⟩ := obind_some h
    obtain ⟨f1c1, qh2, h⟩ := obind_some h
    rw [argV_eq ok qh0, argP_eq qh1, argP_eq qh2] at hg ⊢
    cases (show [_] = [247] from natsEq_eq hg)
    exact call_of (phiE_nat _ _) hs ok mixed Try.func246 (c := slices_IndexFunc_int_int__impl_Clashes_1_code) (by kernel_rfl) (slices_IndexFunc_int_int__impl_Clashes_1_lo n) (by kernel_rfl) (by kernel_rfl) (by kernel_rfl) slices_IndexFunc_int_int__impl_Clashes_1_de ((slices_IndexFunc_int_int__impl_Clashes_1_tie n s0 f1c0 f1c1).trans h)
  · cases h
noncomputable def slices_ContainsFunc_int_int__impl_Clashes_1_code : Code := match Try.f201.body with | some c => c | none => .skip
def slices_ContainsFunc_int_int__impl_Clashes_1_ann : Ann := fun id => none
def slices_ContainsFunc_int_int__impl_Clashes_1_Ls (n : Nat) : Nat → Option (LSpec T) := fun id => none
theorem slices_ContainsFunc_int_int__impl_Clashes_1_tie (n : Nat) (s0 : List Int) (f1c0 : List SRadio) (f1c1 : SRadio) : evF (T := T) (Phi n 27) (slices_ContainsFunc_int_int__impl_Clashes_1_Ls n) slices_ContainsFunc_int_int__impl_Clashes_1_ann n Try.f201 (sg 201) [vA T 24 s0, .fn 247 [.ptr 136 f1c0, .ptr 250 f1c1]] slices_ContainsFunc_int_int__impl_Clashes_1_dec = slices_ContainsFunc_int_int__impl_Clashes_1 n s0 f1c0 f1c1 := by kernel_rfl
theorem slices_ContainsFunc_int_int__impl_Clashes_1_lo (n : Nat) : LoopsOk (T := T) (Phi n 27) (slices_ContainsFunc_int_int__impl_Clashes_1_Ls n) slices_ContainsFunc_int_int__impl_Clashes_1_ann n slices_ContainsFunc_int_int__impl_Clashes_1_code := loopsOk_all (cs := []) (by kernel_rfl) trivial
theorem slices_ContainsFunc_int_int__impl_Clashes_1_ok (n : Nat) : EntOk Try.prog (ents n) (slices_ContainsFunc_int_int__impl_Clashes_1_ent n) := by
  intro hs ar y hg h
  replace h : slices_ContainsFunc_int_int__impl_Clashes_1_D n ar = some y := h
  unfold slices_ContainsFunc_int_int__impl_Clashes_1_D at h
  split at h
  · obtain ⟨s0, qh0, h⟩ := obind_some h
    obtain ⟨f1c0, qh1, h⟩ := obind_some h
    obtain ⟨f1c1, qh2, h⟩ := obind_some h
    rw [argV_eq ok qh0, argP_eq qh1, argP_eq qh2] at hg ⊢
    cases (show [_] = [247] from natsEq_eq hg)
    exact call_of (phiE_nat _ _) hs ok mixed Try.func201 (c := slices_ContainsFunc_int_int__impl_Clashes_1_code) (by kernel_rfl) (slices_ContainsFunc_int_int__impl_Clashes_1_lo n) (by kernel_rfl) (by kernel_rfl) (by kernel_rfl) slices_ContainsFunc_int_int__impl_Clashes_1_de ((slices_ContainsFunc_int_int__impl_Clashes_1_tie n s0 f1c0 f1c1).trans h)
  · cases h
noncomputable def impl_Clashes_code : Code := match Try.f204.body with | some c => c | none => .skip
def impl_Clashes_5_sv : List Sv := [.one (.ptr 8 0 0), .one (.own 3000000 3 false), .one (.arr 250), .one (.int .i64), .one (.int .i64)]
def impl_Clashes_5_so : List So := [.var [.arr 250], .arr 3 false]
def impl_Clashes_5_emb (c : List SRadio × Int × List SRadio) (x : Int × List Int) : EVs T impl_Clashes_5_sv × EOs T impl_Clashes_5_so := (((), (), c.1, c.2.1, x.1, ()), ((c.2.2, ()), x.2, ()))
def impl_Clashes_5_prj (y : EVs T impl_Clashes_5_sv × EOs T impl_Clashes_5_so) : (List SRadio × Int × List SRadio) × (Int × List Int) := ((y.1.2.2.1, y.1.2.2.2.1, y.2.1.1), (y.1.2.2.2.2.1, y.2.2.1))
def impl_Clashes_5_b (n : Nat) {R : Type} (K : Ex → Sm.St T → Option R) (c : List SRadio × Int × List SRadio) (x : Int × List Int) (J : (Int × List Int) → Option R) : Option R :=
  impl_Clashes_L5 n (fun (y0 : List Int) => K (.exit 0) (stOf (T := T) [3] [3000000] [.one (.own 3000000 3 false)] [.arr 3 false] ((), ()) (y0, ()))) (fun z0 z1 => J (z0, z1)) c.1 c.2.1 x.1 c.2.2 x.2
def impl_Clashes_5_sp (n : Nat) : LSpec T := mkSpec T ⟨[((.reg 3), 3000000, 3)], [1, 3, 9, 10, 11], [8, 3000000]⟩ impl_Clashes_5_sv impl_Clashes_5_so (List SRadio × Int × List SRadio) (Int × List Int) impl_Clashes_5_emb impl_Clashes_5_prj (impl_Clashes_5_b n)
noncomputable def impl_Clashes_5_c : Code := ((loopCodes impl_Clashes_code)[0]?).getD .skip
def impl_Clashes_ann : Ann := fun id => bif Nat.beq id 3000005 then some ⟨[((.reg 3), 3000000, 3)], [3], [3000000]⟩ else none
def impl_Clashes_Ls (n : Nat) : Nat → Option (LSpec T) := fun id => bif Nat.beq id 5 then some (impl_Clashes_5_sp n) else none
theorem impl_Clashes_5_le (n : Nat) : LoopEq (T := T) (Phi n 28) (impl_Clashes_Ls n) impl_Clashes_ann n impl_Clashes_5_c (impl_Clashes_5_sp n) := ⟨mkSpec_dec (fun y => rfl), fun c x => by kernel_rfl, fun K J c x => by kernel_rfl⟩
theorem impl_Clashes_tie (n : Nat) (list0 : List SRadio) : evF (T := T) (Phi n 28) (impl_Clashes_Ls n) impl_Clashes_ann n Try.f204 (sg 204) [vA T 136 list0] impl_Clashes_dec = impl_Clashes n list0 := by kernel_rfl
theorem impl_Clashes_lo (n : Nat) : LoopsOk (T := T) (Phi n 28) (impl_Clashes_Ls n) impl_Clashes_ann n impl_Clashes_code := loopsOk_all (cs := [impl_Clashes_5_c]) (by kernel_rfl) ⟨⟨_, by kernel_rfl, impl_Clashes_5_le n⟩, trivial⟩
theorem impl_Clashes_ok (n : Nat) : EntOk Try.prog (ents n) (impl_Clashes_ent n) := by
  intro hs ar y hg h
  replace h : impl_Clashes_D n ar = some y := h
  unfold impl_Clashes_D at h
  replace h := ocons_some h
  obtain ⟨a0, r0, rfl, h⟩ := h
  replace h := onil_some h
  obtain ⟨rfl, h⟩ := h
  obtain ⟨list0, qh0, h⟩ := obind_some h
  rw [argV_eq ok qh0]
  exact call_of (phiE_nat _ _) hs ok mixed Try.func204 (c := impl_Clashes_code) (by kernel_rfl) (impl_Clashes_lo n) (by kernel_rfl) (by kernel_rfl) (by kernel_rfl) impl_Clashes_de ((impl_Clashes_tie n list0).trans h)
noncomputable def impl_Choose_1_code : Code := match Try.f248.body with | some c => c | none => .skip
def impl_Choose_1_ann : Ann := fun id => none
def impl_Choose_1_Ls (n : Nat) : Nat → Option (LSpec T) := fun id => none
theorem impl_Choose_1_tie (n : Nat) (h0 : Int) (a1 : List SRadio) (a2 : Int) : evF (T := T) (Phi n 29) (impl_Choose_1_Ls n) impl_Choose_1_ann n Try.f248 (sg 248) [vA T 3 h0, .ptr 136 a1, .ptr 3 a2] impl_Choose_1_dec = impl_Choose_1 n h0 a1 a2 := by kernel_rfl
theorem impl_Choose_1_lo (n : Nat) : LoopsOk (T := T) (Phi n 29) (impl_Choose_1_Ls n) impl_Choose_1_ann n impl_Choose_1_code := loopsOk_all (cs := []) (by kernel_rfl) trivial
theorem impl_Choose_1_ok (n : Nat) : EntOk Try.prog (ents n) (impl_Choose_1_ent n) := by
  intro hs ar y hg h
  replace h : impl_Choose_1_D n ar = some y := h
  unfold impl_Choose_1_D at h
  replace h := ocons_some h
  obtain ⟨a0, r0, rfl, h⟩ := h
  replace h := ocons_some h
  obtain ⟨a1, r1, rfl, h⟩ := h
  replace h := ocons_some h
  obtain ⟨a2, r2, rfl, h⟩ := h
  replace h := onil_some h
  obtain ⟨rfl, h⟩ := h
  obtain ⟨h0, qh0, h⟩ := obind_some h
  obtain ⟨a1, qh1, h⟩ := obind_some h
  obtain ⟨a2, qh2, h⟩ := obind_some h
  rw [argV_eq ok qh0, argP_eq qh1, argP_eq qh2]
  exact call_of (phiE_nat _ _) hs ok mixed Try.func248 (c := impl_Choose_1_code) (by kernel_rfl) (impl_Choose_1_lo n) (by kernel_rfl) (by kernel_rfl) (by kernel_rfl) impl_Choose_1_de ((impl_Choose_1_tie n h0 a1 a2).trans h)
noncomputable def slices_IndexFunc_int_int__impl_Choose_1_code : Code := match Try.f246.body with | some c => c | none => .skip
def slices_IndexFunc_int_int__impl_Choose_1_2_sv : List Sv := [.one (.arr 3), .one (.fnr 248 [136, 3]), .one (.int .i64), .one (.int .i64)]
def slices_IndexFunc_int_int__impl_Choose_1_2_so : List So := []
def slices_IndexFunc_int_int__impl_Choose_1_2_emb (c : List Int × List SRadio × Int × Int) (x : Int) : EVs T slices_IndexFunc_int_int__impl_Choose_1_2_sv × EOs T slices_IndexFunc_int_int__impl_Choose_1_2_so := ((c.1, (c.2.1, c.2.2.1, ()), c.2.2.2, x, ()), ())
def slices_IndexFunc_int_int__impl_Choose_1_2_prj (y : EVs T slices_IndexFunc_int_int__impl_Choose_1_2_sv × EOs T slices_IndexFunc_int_int__impl_Choose_1_2_so) : (List Int × List SRadio × Int × Int) × Int := ((y.1.1, y.1.2.1.1, y.1.2.1.2.1, y.1.2.2.1), (y.1.2.2.2.1))
def slices_IndexFunc_int_int__impl_Choose_1_2_b (n : Nat) {R : Type} (K : Ex → Sm.St T → Option R) (c : List Int × List SRadio × Int × Int) (x : Int) (J : Int → Option R) : Option R :=
  slices_IndexFunc_int_int__impl_Choose_1_L2 n (K (.exit 0) (stOf (T := T) [] [] [] [] () ())) (fun (y0 : Int) => K .ret (stOf (T := T) [4] [] [.one (.int .i64)] [] (y0, ()) ())) J c.1 c.2.1 c.2.2.1 c.2.2.2 x
def slices_IndexFunc_int_int__impl_Choose_1_2_sp (n : Nat) : LSpec T := mkSpec T ⟨[], [0, 1, 7, 8], []⟩ slices_IndexFunc_int_int__impl_Choose_1_2_sv slices_IndexFunc_int_int__impl_Choose_1_2_so (List Int × List SRadio × Int × Int) (Int) slices_IndexFunc_int_int__impl_Choose_1_2_emb slices_IndexFunc_int_int__impl_Choose_1_2_prj (slices_IndexFunc_int_int__impl_Choose_1_2_b n)
noncomputable def slices_IndexFunc_int_int__impl_Choose_1_2_c : Code := ((loopCodes slices_IndexFunc_int_int__impl_Choose_1_code)[0]?).getD .skip
def slices_IndexFunc_int_int__impl_Choose_1_ann : Ann := fun id => bif Nat.beq id 3000002 then some ⟨[], [], []⟩ else bif Nat.beq id 2000002 then some ⟨[], [4], []⟩ else none
def slices_IndexFunc_int_int__impl_Choose_1_Ls (n : Nat) : Nat → Option (LSpec T) := fun id => bif Nat.beq id 2 then some (slices_IndexFunc_int_int__impl_Choose_1_2_sp n) else none
theorem slices_IndexFunc_int_int__impl_Choose_1_2_le (n : Nat) : LoopEq (T := T) (Phi n 30) (slices_IndexFunc_int_int__impl_Choose_1_Ls n) slices_IndexFunc_int_int__impl_Choose_1_ann n slices_IndexFunc_int_int__impl_Choose_1_2_c (slices_IndexFunc_int_int__impl_Choose_1_2_sp n) := ⟨mkSpec_dec (fun y => rfl), fun c x => by kernel_rfl, fun K J c x => by kernel_rfl⟩
theorem slices_IndexFunc_int_int__impl_Choose_1_tie (n : Nat) (s0 : List Int) (f1c0 : List SRadio) (f1c1 : Int) : evF (T := T) (Phi n 30) (slices_IndexFunc_int_int__impl_Choose_1_Ls n) slices_IndexFunc_int_int__impl_Choose_1_ann n Try.f246 (sg 246) [vA T 24 s0, .fn 248 [.ptr 136 f1c0, .ptr 3 f1c1]] slices_IndexFunc_int_int__impl_Choose_1_dec = slices_IndexFunc_int_int__impl_Choose_1 n s0 f1c0 f1c1 := by kernel_rfl
theorem slices_IndexFunc_int_int__impl_Choose_1_lo (n : Nat) : LoopsOk (T := T) (Phi n 30) (slices_IndexFunc_int_int__impl_Choose_1_Ls n) slices_IndexFunc_int_int__impl_Choose_1_ann n slices_IndexFunc_int_int__impl_Choose_1_code := loopsOk_all (cs := [slices_IndexFunc_int_int__impl_Choose_1_2_c]) (by kernel_rfl) ⟨⟨_, by kernel_rfl, slices_IndexFunc_int_int__impl_Choose_1_2_le n⟩, trivial⟩
theorem slices_IndexFunc_int_int__impl_Choose_1_ok (n : Nat) : EntOk Try.prog (ents n) (slices_IndexFunc_int_int__impl_Choose_1_ent n) := by
  intro hs ar y hg h
  replace h : slices_IndexFunc_int_int__impl_Choose_1_D n ar = some y := h
  unfold slices_IndexFunc_int_int__impl_Choose_1_D at h
  split at h
  · obtain ⟨s0, qh0, h⟩ := obind_some h
    obtain ⟨f1c0, qh1, h⟩ := obind_some h
    obtain ⟨f1c1, qh2, h⟩ := obind_some h
    rw [argV_eq ok qh0, argP_eq qh1, argP_eq qh2] at hg ⊢
    cases (show [_] = [248] from natsEq_eq hg)
    exact call_of (phiE_nat _ _) hs ok mixed Try.func246 (c := slices_IndexFunc_int_int__impl_Choose_1_code) (by kernel_rfl) (slices_IndexFunc_int_int__impl_Choose_1_lo n) (by kernel_rfl) (by kernel_rfl) (by kernel_rfl) slices_IndexFunc_int_int__impl_Choose_1_de ((slices_IndexFunc_int_int__impl_Choose_1_tie n s0 f1c0 f1c1).trans h)
  · cases h
noncomputable def slices_ContainsFunc_int_int__impl_Choose_1_code : Code := match Try.f201.body with | some c => c | none => .skip
def slices_ContainsFunc_int_int__impl_Choose_1_ann : Ann := fun id => none
def slices_ContainsFunc_int_int__impl_Choose_1_Ls (n : Nat) : Nat → Option (LSpec T) := fun id => none
theorem slices_ContainsFunc_int_int__impl_Choose_1_tie (n : Nat) (s0 : List Int) (f1c0 : List SRadio) (f1c1 : Int) : evF (T := T) (Phi n 31) (slices_ContainsFunc_int_int__impl_Choose_1_Ls n) slices_ContainsFunc_int_int__impl_Choose_1_ann n Try.f201 (sg 201) [vA T 24 s0, .fn 248 [.ptr 136 f1c0, .ptr 3 f1c1]] slices_ContainsFunc_int_int__impl_Choose_1_dec = slices_ContainsFunc_int_int__impl_Choose_1 n s0 f1c0 f1c1 := by kernel_rfl
theorem slices_ContainsFunc_int_int__impl_Choose_1_lo (n : Nat) : LoopsOk (T := T) (Phi n 31) (slices_ContainsFunc_int_int__impl_Choose_1_Ls n) slices_ContainsFunc_int_int__impl_Choose_1_ann n slices_ContainsFunc_int_int__impl_Choose_1_code := loopsOk_all (cs := []) (by kernel_rfl) trivial
theorem slices_ContainsFunc_int_int__impl_Choose_1_ok (n : Nat) : EntOk Try.prog (ents n) (slices_ContainsFunc_int_int__impl_Choose_1_ent n) := by
  intro hs ar y hg h
  replace h : slices_ContainsFunc_int_int__impl_Choose_1_D n ar = some y := h
  unfold slices_ContainsFunc_int_int__impl_Choose_1_D at h
  split at h
  · obtain ⟨s0, qh0, h⟩ := obind_some h
    obtain ⟨f1c0, qh1, h⟩ := obind_some h
    obtain ⟨f1c1, qh2, h⟩ := obind_some h
    rw [argV_eq ok qh0, argP_eq qh1, argP_eq qh2] at hg ⊢
    cases (show [_] = [248] from natsEq_eq hg)
    exact call_of (phiE_nat _ _) hs ok mixed Try.func201 (c := slices_ContainsFunc_int_int__impl_Choose_1_code) (by kernel_rfl) (slices_ContainsFunc_int_int__impl_Choose_1_lo n) (by kernel_rfl) (by kernel_rfl) (by kernel_rfl) slices_ContainsFunc_int_int__impl_Choose_1_de ((slices_ContainsFunc_int_int__impl_Choose_1_tie n s0 f1c0 f1c1).trans h)
  · cases h
noncomputable def impl_Choose_code : Code := match Try.f205.body with | some c => c | none => .skip
def impl_Choose_5_sv : List Sv := [.one (.int .i64), .one (.int .i64), .one (.ptr 24 0 0), .one (.own 3000000 3 false), .one (.int .i64)]
def impl_Choose_5_so : List So := [.var [.arr 250], .arr 3 false]
def impl_Choose_5_emb (c : Int × Int × List SRadio) (x : Int × List Int) : EVs T impl_Choose_5_sv × EOs T impl_Choose_5_so := ((c.1, c.2.1, (), (), x.1, ()), ((c.2.2, ()), x.2, ()))
def impl_Choose_5_prj (y : EVs T impl_Choose_5_sv × EOs T impl_Choose_5_so) : (Int × Int × List SRadio) × (Int × List Int) := ((y.1.1, y.1.2.1, y.2.1.1), (y.1.2.2.2.2.1, y.2.2.1))
def impl_Choose_5_b (n : Nat) {R : Type} (K : Ex → Sm.St T → Option R) (c : Int × Int × List SRadio) (x : Int × List Int) (J : (Int × List Int) → Option R) : Option R :=
  impl_Choose_L5 n (fun (y3 : List Int) => K (.exit 0) (stOf (T := T) [1, 2, 3, 8] [24, 3000000] [.one (.int .i64), .one (.int .i64), .one (.ptr 24 0 0), .one (.own 3000000 3 false)] [.var [.arr 250], .arr 3 false] (c.1, c.2.1, (), (), ()) ((c.2.2, ()), y3, ()))) (fun z0 z1 => J (z0, z1)) c.1 c.2.1 x.1 c.2.2 x.2
def impl_Choose_5_sp (n : Nat) : LSpec T := mkSpec T ⟨[((.reg 8), 3000000, 3)], [1, 2, 3, 8, 25], [24, 3000000]⟩ impl_Choose_5_sv impl_Choose_5_so (Int × Int × List SRadio) (Int × List Int) impl_Choose_5_emb impl_Choose_5_prj (impl_Choose_5_b n)
noncomputable def impl_Choose_5_c : Code := ((loopCodes impl_Choose_code)[0]?).getD .skip
def impl_Choose_ann : Ann := fun id => bif Nat.beq id 3000005 then some ⟨[((.reg 8), 3000000, 3)], [1, 2, 3, 8], [24, 3000000]⟩ else none
def impl_Choose_Ls (n : Nat) : Nat → Option (LSpec T) := fun id => bif Nat.beq id 5 then some (impl_Choose_5_sp n) else none
theorem impl_Choose_5_le (n : Nat) : LoopEq (T := T) (Phi n 32) (impl_Choose_Ls n) impl_Choose_ann n impl_Choose_5_c (impl_Choose_5_sp n) := ⟨mkSpec_dec (fun y => rfl), fun c x => by kernel_rfl, fun K J c x => by kernel_rfl⟩
theorem impl_Choose_tie (n : Nat) (list0 : List SRadio) (at1 : Int) (coin2 : Int) : evF (T := T) (Phi n 32) (impl_Choose_Ls n) impl_Choose_ann n Try.f205 (sg 205) [vA T 136 list0, vA T 3 at1, vA T 3 coin2] impl_Choose_dec = impl_Choose n list0 at1 coin2 := by kernel_rfl
theorem impl_Choose_lo (n : Nat) : LoopsOk (T := T) (Phi n 32) (impl_Choose_Ls n) impl_Choose_ann n impl_Choose_code := loopsOk_all (cs := [impl_Choose_5_c]) (by kernel_rfl) ⟨⟨_, by kernel_rfl, impl_Choose_5_le n⟩, trivial⟩
theorem impl_Choose_ok (n : Nat) : EntOk Try.prog (ents n) (impl_Choose_ent n) := by
  intro hs ar y hg h
  replace h : impl_Choose_D n ar = some y := h
  unfold impl_Choose_D at h
  replace h := ocons_some h
  obtain ⟨a0, r0, rfl, h⟩ := h
  replace h := ocons_some h
  obtain ⟨a1, r1, rfl, h⟩ := h
  replace h := ocons_some h
  obtain ⟨a2, r2, rfl, h⟩ := h
  replace h := onil_some h
  obtain ⟨rfl, h⟩ := h
  obtain ⟨list0, qh0, h⟩ := obind_some h
  obtain ⟨at1, qh1, h⟩ := obind_some h
  obtain ⟨coin2, qh2, h⟩ := obind_some h
  rw [argV_eq ok qh0, argV_eq ok qh1, argV_eq ok qh2]
  exact call_of (phiE_nat _ _) hs ok mixed Try.func205 (c := impl_Choose_code) (by kernel_rfl) (impl_Choose_lo n) (by kernel_rfl) (by kernel_rfl) (by kernel_rfl) impl_Choose_de ((impl_Choose_tie n list0 at1 coin2).trans h)
noncomputable def impl_Settle_code : Code := match Try.f96.body with | some c => c | none => .skip
def impl_Settle_5_sv : List Sv := [.one (.arr 3), .one (.own 3000000 250 false), .one (.int .i64), .one (.int .i64)]
def impl_Settle_5_so : List So := [.arrU 250 false]
def impl_Settle_5_emb (c : List Int × Int) (x : Int × ((List SRadio) × Nat)) : EVs T impl_Settle_5_sv × EOs T impl_Settle_5_so := ((c.1, (), c.2, x.1, ()), (x.2, ()))
def impl_Settle_5_prj (y : EVs T impl_Settle_5_sv × EOs T impl_Settle_5_so) : (List Int × Int) × (Int × ((List SRadio) × Nat)) := ((y.1.1, y.1.2.2.1), (y.1.2.2.2.1, y.2.1))
def impl_Settle_5_b (n : Nat) {R : Type} (K : Ex → Sm.St T → Option R) (c : List Int × Int) (x : Int × ((List SRadio) × Nat)) (J : (Int × ((List SRadio) × Nat)) → Option R) : Option R :=
  impl_Settle_L5 n (fun (y1 : (List SRadio) × Nat) => K (.exit 0) (stOf (T := T) [1, 7] [3000000] [.one (.arr 3), .one (.own 3000000 250 false)] [.arrU 250 false] (c.1, (), ()) (y1, ()))) (fun z0 z1 => J (z0, z1)) c.1 c.2 x.1 x.2
def impl_Settle_5_sp (n : Nat) : LSpec T := mkSpec T ⟨[((.reg 7), 3000000, 250)], [1, 7, 28, 29], [3000000]⟩ impl_Settle_5_sv impl_Settle_5_so (List Int × Int) (Int × ((List SRadio) × Nat)) impl_Settle_5_emb impl_Settle_5_prj (impl_Settle_5_b n)
noncomputable def impl_Settle_5_c : Code := ((loopCodes impl_Settle_code)[0]?).getD .skip
def impl_Settle_10_sv : List Sv := [.one (.arr 3), .one (.own 3000000 250 false), .one (.int .i64)]
def impl_Settle_10_so : List So := [.arrU 250 false]
def impl_Settle_10_emb (c : List Int) (x : Int × ((List SRadio) × Nat)) : EVs T impl_Settle_10_sv × EOs T impl_Settle_10_so := ((c, (), x.1, ()), (x.2, ()))
def impl_Settle_10_prj (y : EVs T impl_Settle_10_sv × EOs T impl_Settle_10_so) : List Int × (Int × ((List SRadio) × Nat)) := ((y.1.1), (y.1.2.2.1, y.2.1))
def impl_Settle_10_b (n : Nat) {R : Type} (K : Ex → Sm.St T → Option R) (c : List Int) (x : Int × ((List SRadio) × Nat)) (J : (Int × ((List SRadio) × Nat)) → Option R) : Option R :=
  impl_Settle_L10 n (fun (y0 : Int) (y1 : Bool) (y2 : (List SRadio) × Nat) => K .ret (stOf (T := T) [4, 5, 6] [3000001] [.one (.own 3000001 250 false), .one (.int .i64), .one (.bool)] [.arrU 250 false] ((), y0, y1, ()) (y2, ()))) (fun z0 z1 => J (z0, z1)) c x.1 x.2
def impl_Settle_10_sp (n : Nat) : LSpec T := mkSpec T ⟨[((.reg 7), 3000000, 250)], [1, 7, 9], [3000000]⟩ impl_Settle_10_sv impl_Settle_10_so (List Int) (Int × ((List SRadio) × Nat)) impl_Settle_10_emb impl_Settle_10_prj (impl_Settle_10_b n)
noncomputable def impl_Settle_10_c : Code := ((loopCodes impl_Settle_code)[1]?).getD .skip
def impl_Settle_ann : Ann := fun id => bif Nat.beq id 3000005 then some ⟨[((.reg 7), 3000000, 250)], [1, 7], [3000000]⟩ else bif Nat.beq id 2000010 then some ⟨[((.reg 4), 3000001, 250)], [4, 5, 6], [3000001]⟩ else none
def impl_Settle_Ls (n : Nat) : Nat → Option (LSpec T) := fun id => bif Nat.beq id 5 then some (impl_Settle_5_sp n) else bif Nat.beq id 10 then some (impl_Settle_10_sp n) else none
theorem impl_Settle_5_le (n : Nat) : LoopEq (T := T) (Phi n 33) (impl_Settle_Ls n) impl_Settle_ann n impl_Settle_5_c (impl_Settle_5_sp n) := ⟨mkSpec_dec (fun y => rfl), fun c x => by kernel_rfl, fun K J c x => by kernel_rfl⟩
theorem impl_Settle_10_le (n : Nat) : LoopEq (T := T) (Phi n 33) (impl_Settle_Ls n) impl_Settle_ann n impl_Settle_10_c (impl_Settle_10_sp n) := ⟨mkSpec_dec (fun y => rfl), fun c x => by kernel_rfl, fun K J c x => by kernel_rfl⟩
theorem impl_Settle_tie (n : Nat) (list0 : List SRadio) (coins1 : List Int) : evF (T := T) (Phi n 33) (impl_Settle_Ls n) impl_Settle_ann n Try.f96 (sg 96) [vA T 136 list0, vA T 24 coins1] impl_Settle_dec = impl_Settle n list0 coins1 := by kernel_rfl
theorem impl_Settle_lo (n : Nat) : LoopsOk (T := T) (Phi n 33) (impl_Settle_Ls n) impl_Settle_ann n impl_Settle_code := loopsOk_all (cs := [impl_Settle_5_c, impl_Settle_10_c]) (by kernel_rfl) ⟨⟨_, by kernel_rfl, impl_Settle_5_le n⟩, ⟨_, by kernel_rfl, impl_Settle_10_le n⟩, trivial⟩
theorem impl_Settle_ok (n : Nat) : EntOk Try.prog (ents n) (impl_Settle_ent n) := by
  intro hs ar y hg h
  replace h : impl_Settle_D n ar = some y := h
  unfold impl_Settle_D at h
  replace h := ocons_some h
  obtain ⟨a0, r0, rfl, h⟩ := h
  replace h := ocons_some h
  obtain ⟨a1, r1, rfl, h⟩ := h
  replace h := onil_some h
  obtain ⟨rfl, h⟩ := h
  obtain ⟨list0, qh0, h⟩ := obind_some h
  obtain ⟨coins1, qh1, h⟩ := obind_some h
  rw [argV_eq ok qh0, argV_eq ok qh1]
  exact call_of (phiE_nat _ _) hs ok mixed Try.func96 (c := impl_Settle_code) (by kernel_rfl) (impl_Settle_lo n) (by kernel_rfl) (by kernel_rfl) (by kernel_rfl) impl_Settle_de ((impl_Settle_tie n list0 coins1).trans h)
noncomputable def laws_eqIntS_code : Code := match Try.f19.body with | some c => c | none => .skip
def laws_eqIntS_4_sv : List Sv := [.one (.arr 3), .one (.arr 3), .one (.int .i64)]
def laws_eqIntS_4_so : List So := []
def laws_eqIntS_4_emb (c : List Int × List Int) (x : Int) : EVs T laws_eqIntS_4_sv × EOs T laws_eqIntS_4_so := ((c.1, c.2, x, ()), ())
def laws_eqIntS_4_prj (y : EVs T laws_eqIntS_4_sv × EOs T laws_eqIntS_4_so) : (List Int × List Int) × Int := ((y.1.1, y.1.2.1), (y.1.2.2.1))
def laws_eqIntS_4_b (n : Nat) {R : Type} (K : Ex → Sm.St T → Option R) (c : List Int × List Int) (x : Int) (J : Int → Option R) : Option R :=
  laws_eqIntS_L4 n (K (.exit 0) (stOf (T := T) [] [] [] [] () ())) (fun (y0 : Bool) => K .ret (stOf (T := T) [4] [] [.one (.bool)] [] (y0, ()) ())) J c.1 c.2 x
def laws_eqIntS_4_sp (n : Nat) : LSpec T := mkSpec T ⟨[], [0, 1, 5], []⟩ laws_eqIntS_4_sv laws_eqIntS_4_so (List Int × List Int) (Int) laws_eqIntS_4_emb laws_eqIntS_4_prj (laws_eqIntS_4_b n)
noncomputable def laws_eqIntS_4_c : Code := ((loopCodes laws_eqIntS_code)[0]?).getD .skip
def laws_eqIntS_ann : Ann := fun id => bif Nat.beq id 3000004 then some ⟨[], [], []⟩ else bif Nat.beq id 2000004 then some ⟨[], [4], []⟩ else none
def laws_eqIntS_Ls (n : Nat) : Nat → Option (LSpec T) := fun id => bif Nat.beq id 4 then some (laws_eqIntS_4_sp n) else none
theorem laws_eqIntS_4_le (n : Nat) : LoopEq (T := T) (Phi n 34) (laws_eqIntS_Ls n) laws_eqIntS_ann n laws_eqIntS_4_c (laws_eqIntS_4_sp n) := ⟨mkSpec_dec (fun y => rfl), fun c x => by kernel_rfl, fun K J c x => by kernel_rfl⟩
theorem laws_eqIntS_tie (n : Nat) (a0 : List Int) (b1 : List Int) : evF (T := T) (Phi n 34) (laws_eqIntS_Ls n) laws_eqIntS_ann n Try.f19 (sg 19) [vA T 24 a0, vA T 24 b1] laws_eqIntS_dec = laws_eqIntS n a0 b1 := by kernel_rfl
theorem laws_eqIntS_lo (n : Nat) : LoopsOk (T := T) (Phi n 34) (laws_eqIntS_Ls n) laws_eqIntS_ann n laws_eqIntS_code := loopsOk_all (cs := [laws_eqIntS_4_c]) (by kernel_rfl) ⟨⟨_, by kernel_rfl, laws_eqIntS_4_le n⟩, trivial⟩
theorem laws_eqIntS_ok (n : Nat) : EntOk Try.prog (ents n) (laws_eqIntS_ent n) := by
  intro hs ar y hg h
  replace h : laws_eqIntS_D n ar = some y := h
  unfold laws_eqIntS_D at h
  replace h := ocons_some h
  obtain ⟨a0, r0, rfl, h⟩ := h
  replace h := ocons_some h
  obtain ⟨a1, r1, rfl, h⟩ := h
  replace h := onil_some h
  obtain ⟨rfl, h⟩ := h
  obtain ⟨a0, qh0, h⟩ := obind_some h
  obtain ⟨b1, qh1, h⟩ := obind_some h
  rw [argV_eq ok qh0, argV_eq ok qh1]
  exact call_of (phiE_nat _ _) hs ok mixed Try.func19 (c := laws_eqIntS_code) (by kernel_rfl) (laws_eqIntS_lo n) (by kernel_rfl) (by kernel_rfl) (by kernel_rfl) laws_eqIntS_de ((laws_eqIntS_tie n a0 b1).trans h)
noncomputable def laws_eqRadio_code : Code := match Try.f206.body with | some c => c | none => .skip
def laws_eqRadio_ann : Ann := fun id => none
def laws_eqRadio_Ls (n : Nat) : Nat → Option (LSpec T) := fun id => none
theorem laws_eqRadio_tie (n : Nat) (a0 : SRadio) (b1 : SRadio) : evF (T := T) (Phi n 35) (laws_eqRadio_Ls n) laws_eqRadio_ann n Try.f206 (sg 206) [vA T 250 a0, vA T 250 b1] laws_eqRadio_dec = laws_eqRadio n a0 b1 := by kernel_rfl
theorem laws_eqRadio_lo (n : Nat) : LoopsOk (T := T) (Phi n 35) (laws_eqRadio_Ls n) laws_eqRadio_ann n laws_eqRadio_code := loopsOk_all (cs := []) (by kernel_rfl) trivial
theorem laws_eqRadio_ok (n : Nat) : EntOk Try.prog (ents n) (laws_eqRadio_ent n) := by
  intro hs ar y hg h
  replace h : laws_eqRadio_D n ar = some y := h
  unfold laws_eqRadio_D at h
  replace h := ocons_some h
  obtain ⟨a0, r0, rfl, h⟩ := h
  replace h := ocons_some h
  obtain ⟨a1, r1, rfl, h⟩ := h
  replace h := onil_some h
  obtain ⟨rfl, h⟩ := h
  obtain ⟨a0, qh0, h⟩ := obind_some h
  obtain ⟨b1, qh1, h⟩ := obind_some h
  rw [argV_eq ok qh0, argV_eq ok qh1]
  exact call_of (phiE_nat _ _) hs ok mixed Try.func206 (c := laws_eqRadio_code) (by kernel_rfl) (laws_eqRadio_lo n) (by kernel_rfl) (by kernel_rfl) (by kernel_rfl) laws_eqRadio_de ((laws_eqRadio_tie n a0 b1).trans h)
noncomputable def laws_eqRadioS_code : Code := match Try.f97.body with | some c => c | none => .skip
def laws_eqRadioS_4_sv : List Sv := [.one (.arr 250), .one (.arr 250), .one (.int .i64)]
def laws_eqRadioS_4_so : List So := []
def laws_eqRadioS_4_emb (c : List SRadio × List SRadio) (x : Int) : EVs T laws_eqRadioS_4_sv × EOs T laws_eqRadioS_4_so := ((c.1, c.2, x, ()), ())
def laws_eqRadioS_4_prj (y : EVs T laws_eqRadioS_4_sv × EOs T laws_eqRadioS_4_so) : (List SRadio × List SRadio) × Int := ((y.1.1, y.1.2.1), (y.1.2.2.1))
def laws_eqRadioS_4_b (n : Nat) {R : Type} (K : Ex → Sm.St T → Option R) (c : List SRadio × List SRadio) (x : Int) (J : Int → Option R) : Option R :=
  laws_eqRadioS_L4 n (K (.exit 0) (stOf (T := T) [] [] [] [] () ())) (fun (y0 : Bool) => K .ret (stOf (T := T) [4] [] [.one (.bool)] [] (y0, ()) ())) J c.1 c.2 x
def laws_eqRadioS_4_sp (n : Nat) : LSpec T := mkSpec T ⟨[], [0, 1, 5], []⟩ laws_eqRadioS_4_sv laws_eqRadioS_4_so (List SRadio × List SRadio) (Int) laws_eqRadioS_4_emb laws_eqRadioS_4_prj (laws_eqRadioS_4_b n)
noncomputable def laws_eqRadioS_4_c : Code := ((loopCodes laws_eqRadioS_code)[0]?).getD .skip
def laws_eqRadioS_ann : Ann := fun id => bif Nat.beq id 3000004 then some ⟨[], [], []⟩ else bif Nat.beq id 2000004 then some ⟨[], [4], []⟩ else none
def laws_eqRadioS_Ls (n : Nat) : Nat → Option (LSpec T) := fun id => bif Nat.beq id 4 then some (laws_eqRadioS_4_sp n) else none
theorem laws_eqRadioS_4_le (n : Nat) : LoopEq (T := T) (Phi n 36) (laws_eqRadioS_Ls n) laws_eqRadioS_ann n laws_eqRadioS_4_c (laws_eqRadioS_4_sp n) := ⟨mkSpec_dec (fun y => rfl), fun c x => by kernel_rfl, fun K J c x => by kernel_rfl⟩
theorem laws_eqRadioS_tie (n : Nat) (a0 : List SRadio) (b1 : List SRadio) : evF (T := T) (Phi n 36) (laws_eqRadioS_Ls n) laws_eqRadioS_ann n Try.f97 (sg 97) [vA T 136 a0, vA T 136 b1] laws_eqRadioS_dec = laws_eqRadioS n a0 b1 := by kernel_rfl
theorem laws_eqRadioS_lo (n : Nat) : LoopsOk (T := T) (Phi n 36) (laws_eqRadioS_Ls n) laws_eqRadioS_ann n laws_eqRadioS_code := loopsOk_all (cs := [laws_eqRadioS_4_c]) (by kernel_rfl) ⟨⟨_, by kernel_rfl, laws_eqRadioS_4_le n⟩, trivial⟩
theorem laws_eqRadioS_ok (n : Nat) : EntOk Try.prog (ents n) (laws_eqRadioS_ent n) := by
  intro hs ar y hg h
  replace h : laws_eqRadioS_D n ar = some y := h
  unfold laws_eqRadioS_D at h
  replace h := ocons_some h
  obtain ⟨a0, r0, rfl, h⟩ := h
  replace h := ocons_some h
  obtain ⟨a1, r1, rfl, h⟩ := h
  replace h := onil_some h
  obtain ⟨rfl, h⟩ := h
  obtain ⟨a0, qh0, h⟩ := obind_some h
  obtain ⟨b1, qh1, h⟩ := obind_some h
  rw [argV_eq ok qh0, argV_eq ok qh1]
  exact call_of (phiE_nat _ _) hs ok mixed Try.func97 (c := laws_eqRadioS_code) (by kernel_rfl) (laws_eqRadioS_lo n) (by kernel_rfl) (by kernel_rfl) (by kernel_rfl) laws_eqRadioS_de ((laws_eqRadioS_tie n a0 b1).trans h)
noncomputable def laws_markIntS_code : Code := match Try.f22.body with | some c => c | none => .skip
def laws_markIntS_2_sv : List Sv := [.one (.own 4503599627370496 3 false), .one (.int .i64), .one (.int .i64)]
def laws_markIntS_2_so : List So := [.arr 3 true]
def laws_markIntS_2_emb (c : Unit) (x : Int × Int × List Int) : EVs T laws_markIntS_2_sv × EOs T laws_markIntS_2_so := (((), x.1, x.2.1, ()), (x.2.2, ()))
def laws_markIntS_2_prj (y : EVs T laws_markIntS_2_sv × EOs T laws_markIntS_2_so) : Unit × (Int × Int × List Int) := ((), (y.1.2.1, y.1.2.2.1, y.2.1))
def laws_markIntS_2_b (n : Nat) {R : Type} (K : Ex → Sm.St T → Option R) (c : Unit) (x : Int × Int × List Int) (J : (Int × Int × List Int) → Option R) : Option R :=
  laws_markIntS_L2 n (fun (y0 : Int) (y1 : List Int) => K (.exit 0) (stOf (T := T) [1] [4503599627370496] [.one (.int .i64)] [.arr 3 true] (y0, ()) (y1, ()))) (fun z0 z1 z2 => J (z0, z1, z2)) x.1 x.2.1 x.2.2
def laws_markIntS_2_sp (n : Nat) : LSpec T := mkSpec T ⟨[], [0, 1, 5], [4503599627370496]⟩ laws_markIntS_2_sv laws_markIntS_2_so (Unit) (Int × Int × List Int) laws_markIntS_2_emb laws_markIntS_2_prj (laws_markIntS_2_b n)
noncomputable def laws_markIntS_2_c : Code := ((loopCodes laws_markIntS_code)[0]?).getD .skip
def laws_markIntS_ann : Ann := fun id => bif Nat.beq id 3000002 then some ⟨[], [1], [4503599627370496]⟩ else none
def laws_markIntS_Ls (n : Nat) : Nat → Option (LSpec T) := fun id => bif Nat.beq id 2 then some (laws_markIntS_2_sp n) else none
theorem laws_markIntS_2_le (n : Nat) : LoopEq (T := T) (Phi n 37) (laws_markIntS_Ls n) laws_markIntS_ann n laws_markIntS_2_c (laws_markIntS_2_sp n) := ⟨mkSpec_dec (fun y => rfl), fun c x => by kernel_rfl, fun K J c x => by kernel_rfl⟩
theorem laws_markIntS_tie (n : Nat) (a0 : List Int) (k1 : Int) : evF (T := T) (Phi n 37) (laws_markIntS_Ls n) laws_markIntS_ann n Try.f22 (sg 22) [vA T 24 a0, vA T 3 k1] laws_markIntS_dec = laws_markIntS n a0 k1 := by kernel_rfl
theorem laws_markIntS_lo (n : Nat) : LoopsOk (T := T) (Phi n 37) (laws_markIntS_Ls n) laws_markIntS_ann n laws_markIntS_code := loopsOk_all (cs := [laws_markIntS_2_c]) (by kernel_rfl) ⟨⟨_, by kernel_rfl, laws_markIntS_2_le n⟩, trivial⟩
theorem laws_markIntS_ok (n : Nat) : EntOk Try.prog (ents n) (laws_markIntS_ent n) := by
  intro hs ar y hg h
  replace h : laws_markIntS_D n ar = some y := h
  unfold laws_markIntS_D at h
  replace h := ocons_some h
  obtain ⟨a0, r0, rfl, h⟩ := h
  replace h := ocons_some h
  obtain ⟨a1, r1, rfl, h⟩ := h
  replace h := onil_some h
  obtain ⟨rfl, h⟩ := h
  obtain ⟨a0, qh0, h⟩ := obind_some h
  obtain ⟨k1, qh1, h⟩ := obind_some h
  rw [argV_eq ok qh0, argV_eq ok qh1]
  exact call_of (phiE_nat _ _) hs ok mixed Try.func22 (c := laws_markIntS_code) (by kernel_rfl) (laws_markIntS_lo n) (by kernel_rfl) (by kernel_rfl) (by kernel_rfl) laws_markIntS_de ((laws_markIntS_tie n a0 k1).trans h)
noncomputable def laws_markRadioS_code : Code := match Try.f98.body with | some c => c | none => .skip
def laws_markRadioS_2_sv : List Sv := [.one (.own 4503599627370496 250 false), .one (.int .i64), .one (.int .i64)]
def laws_markRadioS_2_so : List So := [.arr 250 true]
def laws_markRadioS_2_emb (c : Unit) (x : Int × Int × List SRadio) : EVs T laws_markRadioS_2_sv × EOs T laws_markRadioS_2_so := (((), x.1, x.2.1, ()), (x.2.2, ()))
def laws_markRadioS_2_prj (y : EVs T laws_markRadioS_2_sv × EOs T laws_markRadioS_2_so) : Unit × (Int × Int × List SRadio) := ((), (y.1.2.1, y.1.2.2.1, y.2.1))
def laws_markRadioS_2_b (n : Nat) {R : Type} (K : Ex → Sm.St T → Option R) (c : Unit) (x : Int × Int × List SRadio) (J : (Int × Int × List SRadio) → Option R) : Option R :=
  laws_markRadioS_L2 n (fun (y0 : Int) (y1 : List SRadio) => K (.exit 0) (stOf (T := T) [1] [4503599627370496] [.one (.int .i64)] [.arr 250 true] (y0, ()) (y1, ()))) (fun z0 z1 z2 => J (z0, z1, z2)) x.1 x.2.1 x.2.2
def laws_markRadioS_2_sp (n : Nat) : LSpec T := mkSpec T ⟨[], [0, 1, 5], [4503599627370496]⟩ laws_markRadioS_2_sv laws_markRadioS_2_so (Unit) (Int × Int × List SRadio) laws_markRadioS_2_emb laws_markRadioS_2_prj (laws_markRadioS_2_b n)
noncomputable def laws_markRadioS_2_c : Code := ((loopCodes laws_markRadioS_code)[0]?).getD .skip
def laws_markRadioS_ann : Ann := fun id => bif Nat.beq id 3000002 then some ⟨[], [1], [4503599627370496]⟩ else none
def laws_markRadioS_Ls (n : Nat) : Nat → Option (LSpec T) := fun id => bif Nat.beq id 2 then some (laws_markRadioS_2_sp n) else none
theorem laws_markRadioS_2_le (n : Nat) : LoopEq (T := T) (Phi n 38) (laws_markRadioS_Ls n) laws_markRadioS_ann n laws_markRadioS_2_c (laws_markRadioS_2_sp n) := ⟨mkSpec_dec (fun y => rfl), fun c x => by kernel_rfl, fun K J c x => by kernel_rfl⟩
theorem laws_markRadioS_tie (n : Nat) (a0 : List SRadio) (k1 : Int) : evF (T := T) (Phi n 38) (laws_markRadioS_Ls n) laws_markRadioS_ann n Try.f98 (sg 98) [vA T 136 a0, vA T 3 k1] laws_markRadioS_dec = laws_markRadioS n a0 k1 := by kernel_rfl
theorem laws_markRadioS_lo (n : Nat) : LoopsOk (T := T) (Phi n 38) (laws_markRadioS_Ls n) laws_markRadioS_ann n laws_markRadioS_code := loopsOk_all (cs := [laws_markRadioS_2_c]) (by kernel_rfl) ⟨⟨_, by kernel_rfl, laws_markRadioS_2_le n⟩, trivial⟩
theorem laws_markRadioS_ok (n : Nat) : EntOk Try.prog (ents n) (laws_markRadioS_ent n) := by
  intro hs ar y hg h
  replace h : laws_markRadioS_D n ar = some y := h
  unfold laws_markRadioS_D at h
  replace h := ocons_some h
  obtain ⟨a0, r0, rfl, h⟩ := h
  replace h := ocons_some h
  obtain ⟨a1, r1, rfl, h⟩ := h
  replace h := onil_some h
  obtain ⟨rfl, h⟩ := h
  obtain ⟨a0, qh0, h⟩ := obind_some h
  obtain ⟨k1, qh1, h⟩ := obind_some h
  rw [argV_eq ok qh0, argV_eq ok qh1]
  exact call_of (phiE_nat _ _) hs ok mixed Try.func98 (c := laws_markRadioS_code) (by kernel_rfl) (laws_markRadioS_lo n) (by kernel_rfl) (by kernel_rfl) (by kernel_rfl) laws_markRadioS_de ((laws_markRadioS_tie n a0 k1).trans h)
noncomputable def laws_heldIntS_code : Code := match Try.f23.body with | some c => c | none => .skip
def laws_heldIntS_2_sv : List Sv := [.one (.arr 3), .one (.int .i64), .one (.int .i64)]
def laws_heldIntS_2_so : List So := []
def laws_heldIntS_2_emb (c : List Int) (x : Int × Int) : EVs T laws_heldIntS_2_sv × EOs T laws_heldIntS_2_so := ((c, x.1, x.2, ()), ())
def laws_heldIntS_2_prj (y : EVs T laws_heldIntS_2_sv × EOs T laws_heldIntS_2_so) : List Int × (Int × Int) := ((y.1.1), (y.1.2.1, y.1.2.2.1))
def laws_heldIntS_2_b (n : Nat) {R : Type} (K : Ex → Sm.St T → Option R) (c : List Int) (x : Int × Int) (J : (Int × Int) → Option R) : Option R :=
  laws_heldIntS_L2 n (fun (y0 : Int) => K (.exit 0) (stOf (T := T) [1] [] [.one (.int .i64)] [] (y0, ()) ())) (fun (y0 : Int) => K .ret (stOf (T := T) [4] [] [.one (.int .i64)] [] (y0, ()) ())) (fun z0 z1 => J (z0, z1)) c x.1 x.2
def laws_heldIntS_2_sp (n : Nat) : LSpec T := mkSpec T ⟨[], [0, 1, 5], []⟩ laws_heldIntS_2_sv laws_heldIntS_2_so (List Int) (Int × Int) laws_heldIntS_2_emb laws_heldIntS_2_prj (laws_heldIntS_2_b n)
noncomputable def laws_heldIntS_2_c : Code := ((loopCodes laws_heldIntS_code)[0]?).getD .skip
def laws_heldIntS_ann : Ann := fun id => bif Nat.beq id 3000002 then some ⟨[], [1], []⟩ else bif Nat.beq id 2000002 then some ⟨[], [4], []⟩ else none
def laws_heldIntS_Ls (n : Nat) : Nat → Option (LSpec T) := fun id => bif Nat.beq id 2 then some (laws_heldIntS_2_sp n) else none
theorem laws_heldIntS_2_le (n : Nat) : LoopEq (T := T) (Phi n 39) (laws_heldIntS_Ls n) laws_heldIntS_ann n laws_heldIntS_2_c (laws_heldIntS_2_sp n) := ⟨mkSpec_dec (fun y => rfl), fun c x => by kernel_rfl, fun K J c x => by kernel_rfl⟩
theorem laws_heldIntS_tie (n : Nat) (a0 : List Int) (k1 : Int) : evF (T := T) (Phi n 39) (laws_heldIntS_Ls n) laws_heldIntS_ann n Try.f23 (sg 23) [vA T 24 a0, vA T 3 k1] laws_heldIntS_dec = laws_heldIntS n a0 k1 := by kernel_rfl
theorem laws_heldIntS_lo (n : Nat) : LoopsOk (T := T) (Phi n 39) (laws_heldIntS_Ls n) laws_heldIntS_ann n laws_heldIntS_code := loopsOk_all (cs := [laws_heldIntS_2_c]) (by kernel_rfl) ⟨⟨_, by kernel_rfl, laws_heldIntS_2_le n⟩, trivial⟩
theorem laws_heldIntS_ok (n : Nat) : EntOk Try.prog (ents n) (laws_heldIntS_ent n) := by
  intro hs ar y hg h
  replace h : laws_heldIntS_D n ar = some y := h
  unfold laws_heldIntS_D at h
  replace h := ocons_some h
  obtain ⟨a0, r0, rfl, h⟩ := h
  replace h := ocons_some h
  obtain ⟨a1, r1, rfl, h⟩ := h
  replace h := onil_some h
  obtain ⟨rfl, h⟩ := h
  obtain ⟨a0, qh0, h⟩ := obind_some h
  obtain ⟨k1, qh1, h⟩ := obind_some h
  rw [argV_eq ok qh0, argV_eq ok qh1]
  exact call_of (phiE_nat _ _) hs ok mixed Try.func23 (c := laws_heldIntS_code) (by kernel_rfl) (laws_heldIntS_lo n) (by kernel_rfl) (by kernel_rfl) (by kernel_rfl) laws_heldIntS_de ((laws_heldIntS_tie n a0 k1).trans h)
noncomputable def laws_heldRadioS_code : Code := match Try.f99.body with | some c => c | none => .skip
def laws_heldRadioS_2_sv : List Sv := [.one (.arr 250), .one (.int .i64), .one (.int .i64)]
def laws_heldRadioS_2_so : List So := []
def laws_heldRadioS_2_emb (c : List SRadio) (x : Int × Int) : EVs T laws_heldRadioS_2_sv × EOs T laws_heldRadioS_2_so := ((c, x.1, x.2, ()), ())
def laws_heldRadioS_2_prj (y : EVs T laws_heldRadioS_2_sv × EOs T laws_heldRadioS_2_so) : List SRadio × (Int × Int) := ((y.1.1), (y.1.2.1, y.1.2.2.1))
def laws_heldRadioS_2_b (n : Nat) {R : Type} (K : Ex → Sm.St T → Option R) (c : List SRadio) (x : Int × Int) (J : (Int × Int) → Option R) : Option R :=
  laws_heldRadioS_L2 n (fun (y0 : Int) => K (.exit 0) (stOf (T := T) [1] [] [.one (.int .i64)] [] (y0, ()) ())) (fun (y0 : Int) => K .ret (stOf (T := T) [4] [] [.one (.int .i64)] [] (y0, ()) ())) (fun z0 z1 => J (z0, z1)) c x.1 x.2
def laws_heldRadioS_2_sp (n : Nat) : LSpec T := mkSpec T ⟨[], [0, 1, 5], []⟩ laws_heldRadioS_2_sv laws_heldRadioS_2_so (List SRadio) (Int × Int) laws_heldRadioS_2_emb laws_heldRadioS_2_prj (laws_heldRadioS_2_b n)
noncomputable def laws_heldRadioS_2_c : Code := ((loopCodes laws_heldRadioS_code)[0]?).getD .skip
def laws_heldRadioS_ann : Ann := fun id => bif Nat.beq id 3000002 then some ⟨[], [1], []⟩ else bif Nat.beq id 2000002 then some ⟨[], [4], []⟩ else none
def laws_heldRadioS_Ls (n : Nat) : Nat → Option (LSpec T) := fun id => bif Nat.beq id 2 then some (laws_heldRadioS_2_sp n) else none
theorem laws_heldRadioS_2_le (n : Nat) : LoopEq (T := T) (Phi n 40) (laws_heldRadioS_Ls n) laws_heldRadioS_ann n laws_heldRadioS_2_c (laws_heldRadioS_2_sp n) := ⟨mkSpec_dec (fun y => rfl), fun c x => by kernel_rfl, fun K J c x => by kernel_rfl⟩
theorem laws_heldRadioS_tie (n : Nat) (a0 : List SRadio) (k1 : Int) : evF (T := T) (Phi n 40) (laws_heldRadioS_Ls n) laws_heldRadioS_ann n Try.f99 (sg 99) [vA T 136 a0, vA T 3 k1] laws_heldRadioS_dec = laws_heldRadioS n a0 k1 := by kernel_rfl
theorem laws_heldRadioS_lo (n : Nat) : LoopsOk (T := T) (Phi n 40) (laws_heldRadioS_Ls n) laws_heldRadioS_ann n laws_heldRadioS_code := loopsOk_all (cs := [laws_heldRadioS_2_c]) (by kernel_rfl) ⟨⟨_, by kernel_rfl, laws_heldRadioS_2_le n⟩, trivial⟩
theorem laws_heldRadioS_ok (n : Nat) : EntOk Try.prog (ents n) (laws_heldRadioS_ent n) := by
  intro hs ar y hg h
  replace h : laws_heldRadioS_D n ar = some y := h
  unfold laws_heldRadioS_D at h
  replace h := ocons_some h
  obtain ⟨a0, r0, rfl, h⟩ := h
  replace h := ocons_some h
  obtain ⟨a1, r1, rfl, h⟩ := h
  replace h := onil_some h
  obtain ⟨rfl, h⟩ := h
  obtain ⟨a0, qh0, h⟩ := obind_some h
  obtain ⟨k1, qh1, h⟩ := obind_some h
  rw [argV_eq ok qh0, argV_eq ok qh1]
  exact call_of (phiE_nat _ _) hs ok mixed Try.func99 (c := laws_heldRadioS_code) (by kernel_rfl) (laws_heldRadioS_lo n) (by kernel_rfl) (by kernel_rfl) (by kernel_rfl) laws_heldRadioS_de ((laws_heldRadioS_tie n a0 k1).trans h)
noncomputable def laws_FnExactSettle_code : Code := match Try.f14.body with | some c => c | none => .skip
def laws_FnExactSettle_ann : Ann := fun id => none
def laws_FnExactSettle_Ls (n : Nat) : Nat → Option (LSpec T) := fun id => none
theorem laws_FnExactSettle_tie (n : Nat) (aList0 : List SRadio) (aCoins1 : List Int) : evF (T := T) (Phi n 41) (laws_FnExactSettle_Ls n) laws_FnExactSettle_ann n Try.f14 (sg 14) [vA T 134 aList0, vA T 24 aCoins1] laws_FnExactSettle_dec = laws_FnExactSettle n aList0 aCoins1 := by kernel_rfl
theorem laws_FnExactSettle_lo (n : Nat) : LoopsOk (T := T) (Phi n 41) (laws_FnExactSettle_Ls n) laws_FnExactSettle_ann n laws_FnExactSettle_code := loopsOk_all (cs := []) (by kernel_rfl) trivial
theorem laws_FnExactSettle_ok (n : Nat) : EntOk Try.prog (ents n) (laws_FnExactSettle_ent n) := by
  intro hs ar y hg h
  replace h : laws_FnExactSettle_D n ar = some y := h
  unfold laws_FnExactSettle_D at h
  replace h := ocons_some h
  obtain ⟨a0, r0, rfl, h⟩ := h
  replace h := ocons_some h
  obtain ⟨a1, r1, rfl, h⟩ := h
  replace h := onil_some h
  obtain ⟨rfl, h⟩ := h
  obtain ⟨aList0, qh0, h⟩ := obind_some h
  obtain ⟨aCoins1, qh1, h⟩ := obind_some h
  rw [argV_eq ok qh0, argV_eq ok qh1]
  exact call_of (phiE_nat _ _) hs ok mixed Try.func14 (c := laws_FnExactSettle_code) (by kernel_rfl) (laws_FnExactSettle_lo n) (by kernel_rfl) (by kernel_rfl) (by kernel_rfl) laws_FnExactSettle_de ((laws_FnExactSettle_tie n aList0 aCoins1).trans h)
theorem entsOk (n : Nat) : EntsOk Try.prog (ents n) (ents n) := ⟨laws_szIntS_ok n, laws_szRadio_ok n, laws_szRadioS_ok n, laws_toIntS_ok n, laws_toRadio_ok n, laws_toRadioS_ok n, spec_l1In_ok n, spec_l9Has_ok n, spec_RadiosOk_ok n, spec_l3All_ok n, spec_l9Copy_ok n, spec_Clashes_ok n, spec_Choose_ok n, spec_Settle_ok n, impl_in_ok n, impl_idOk_ok n, impl_slotOk_ok n, slices_Index_int_int_ok n, slices_Contains_int_int_ok n, impl_RadiosOk_ok n, impl_Settle_1_ok n, slices_IndexFunc_int_int__impl_Settle_1_ok n, slices_ContainsFunc_int_int__impl_Settle_1_ok n, impl_own_impl_Radio_ok n, impl_own_int_ok n, impl_Clashes_1_ok n, slices_IndexFunc_int_int__impl_Clashes_1_ok n, slices_ContainsFunc_int_int__impl_Clashes_1_ok n, impl_Clashes_ok n, impl_Choose_1_ok n, slices_IndexFunc_int_int__impl_Choose_1_ok n, slices_ContainsFunc_int_int__impl_Choose_1_ok n, impl_Choose_ok n, impl_Settle_ok n, laws_eqIntS_ok n, laws_eqRadio_ok n, laws_eqRadioS_ok n, laws_markIntS_ok n, laws_markRadioS_ok n, laws_heldIntS_ok n, laws_heldRadioS_ok n, laws_FnExactSettle_ok n, trivial⟩
theorem sem (n i : Nat) : SemOk (Phi n i) (CallOk Try.prog T) := phiE_ok (entsOk n) i
end Go.Sm.A14
