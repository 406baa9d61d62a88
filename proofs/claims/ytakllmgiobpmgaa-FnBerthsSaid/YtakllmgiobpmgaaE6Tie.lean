import Derived.Test.YtakllmgiobpmgaaE6Tb
import Derived.Test.YtakllmgiobpmgaaEngD
import Derived.KernelRfl
/- Each function's code computes what the plain function computes. -/
set_option linter.unusedSimpArgs false
set_option linter.deprecated false
set_option linter.unusedSectionVars false
set_option linter.unusedVariables false
set_option maxRecDepth 100000
open Go Go.Proofs
noncomputable section
namespace Go.Sm.E6
/-- By recursors, and of a greater height than all of the functions: the kernel takes these apart first. -/
def obind {α β : Type} (o : Option α) (f : α → Option β) : Option β := let _ := @laws_FnBerths; Option.rec (motive := fun _ => Option β) none (fun a => f a) o
theorem obind_some {α β : Type} {o : Option α} {f : α → Option β} {y : β} (h : obind o f = some y) : ∃ a, o = some a ∧ f a = some y := by
  cases o with
  | none => cases h
  | some a => exact ⟨a, rfl, h⟩
def ocons {β : Type} (l : List (A T)) (f : A T → List (A T) → Option β) : Option β := let _ := @laws_FnBerths; List.rec (motive := fun _ => Option β) none (fun a r _ => f a r) l
theorem ocons_some {β : Type} {l : List (A T)} {f : A T → List (A T) → Option β} {y : β} (h : ocons l f = some y) : ∃ a r, l = a :: r ∧ f a r = some y := by
  cases l with
  | nil => cases h
  | cons a r => exact ⟨a, r, rfl, h⟩
def onil {β : Type} (l : List (A T)) (x : Option β) : Option β := let _ := @laws_FnBerths; List.rec (motive := fun _ => Option β) x (fun _ _ _ => none) l
theorem onil_some {β : Type} {l : List (A T)} {x : Option β} {y : β} (h : onil l x = some y) : l = [] ∧ x = some y := by
  cases l with
  | nil => exact ⟨rfl, h⟩
  | cons a r => cases h
def laws_big_dec (res : Res T) : Option Bool := match res.rets, res.outs with
  | [a0], [] => (retV (T := T) 4 a0).bind fun r0 => some (r0)
  | _, _ => none
def laws_big_enc (y : Bool) : Res T := ⟨[vR T 4 y], []⟩
theorem laws_big_de (res : Res T) (y : Bool) (h : laws_big_dec res = some y) : res = laws_big_enc y := by
  obtain ⟨rets, outs⟩ := res
  unfold laws_big_dec at h
  dsimp only at h
  split at h
  · obtain ⟨r0, h0, h⟩ := Option.bind_eq_some_iff.1 h
    cases h
    rw [retV_eq ok h0]
    rfl
  · cases h
def spec_l1New_dec (res : Res T) : Option Sl1Cur := match res.rets, res.outs with
  | [a0], [] => (retP (T := T) 184 a0).bind fun r0 => some (r0)
  | _, _ => none
def spec_l1New_enc (y : Sl1Cur) : Res T := ⟨[.ptr 184 y], []⟩
theorem spec_l1New_de (res : Res T) (y : Sl1Cur) (h : spec_l1New_dec res = some y) : res = spec_l1New_enc y := by
  obtain ⟨rets, outs⟩ := res
  unfold spec_l1New_dec at h
  dsimp only at h
  split at h
  · obtain ⟨r0, h0, h⟩ := Option.bind_eq_some_iff.1 h
    cases h
    rw [retP_eq h0]
    rfl
  · cases h
def spec_l1Byte_dec (res : Res T) : Option (Int × Sl1Cur) := match res.rets, res.outs with
  | [a0], [b0] => (retV (T := T) 3 a0).bind fun r0 => (outV (T := T) 184 b0).bind fun r1 => some (r0, r1)
  | _, _ => none
def spec_l1Byte_enc (y : Int × Sl1Cur) : Res T := ⟨[vR T 3 y.1], [.var 184 y.2]⟩
theorem spec_l1Byte_de (res : Res T) (y : Int × Sl1Cur) (h : spec_l1Byte_dec res = some y) : res = spec_l1Byte_enc y := by
  obtain ⟨rets, outs⟩ := res
  unfold spec_l1Byte_dec at h
  dsimp only at h
  split at h
  · obtain ⟨r0, h0, h⟩ := Option.bind_eq_some_iff.1 h
    obtain ⟨r1, h1, h⟩ := Option.bind_eq_some_iff.1 h
    cases h
    rw [retV_eq ok h0, outV_eq h1]
    rfl
  · cases h
def spec_l1Below_dec (res : Res T) : Option (Int × Sl1Cur) := match res.rets, res.outs with
  | [a0], [b0] => (retV (T := T) 3 a0).bind fun r0 => (outV (T := T) 184 b0).bind fun r1 => some (r0, r1)
  | _, _ => none
def spec_l1Below_enc (y : Int × Sl1Cur) : Res T := ⟨[vR T 3 y.1], [.var 184 y.2]⟩
theorem spec_l1Below_de (res : Res T) (y : Int × Sl1Cur) (h : spec_l1Below_dec res = some y) : res = spec_l1Below_enc y := by
  obtain ⟨rets, outs⟩ := res
  unfold spec_l1Below_dec at h
  dsimp only at h
  split at h
  · obtain ⟨r0, h0, h⟩ := Option.bind_eq_some_iff.1 h
    obtain ⟨r1, h1, h⟩ := Option.bind_eq_some_iff.1 h
    cases h
    rw [retV_eq ok h0, outV_eq h1]
    rfl
  · cases h
def spec_l1Once_dec (res : Res T) : Option (Bool × Sl1Cur) := match res.rets, res.outs with
  | [a0], [b0] => (retV (T := T) 4 a0).bind fun r0 => (outV (T := T) 184 b0).bind fun r1 => some (r0, r1)
  | _, _ => none
def spec_l1Once_enc (y : Bool × Sl1Cur) : Res T := ⟨[vR T 4 y.1], [.var 184 y.2]⟩
theorem spec_l1Once_de (res : Res T) (y : Bool × Sl1Cur) (h : spec_l1Once_dec res = some y) : res = spec_l1Once_enc y := by
  obtain ⟨rets, outs⟩ := res
  unfold spec_l1Once_dec at h
  dsimp only at h
  split at h
  · obtain ⟨r0, h0, h⟩ := Option.bind_eq_some_iff.1 h
    obtain ⟨r1, h1, h⟩ := Option.bind_eq_some_iff.1 h
    cases h
    rw [retV_eq ok h0, outV_eq h1]
    rfl
  · cases h
def spec_l17Meet_dec (res : Res T) : Option Bool := match res.rets, res.outs with
  | [a0], [] => (retV (T := T) 4 a0).bind fun r0 => some (r0)
  | _, _ => none
def spec_l17Meet_enc (y : Bool) : Res T := ⟨[vR T 4 y], []⟩
theorem spec_l17Meet_de (res : Res T) (y : Bool) (h : spec_l17Meet_dec res = some y) : res = spec_l17Meet_enc y := by
  obtain ⟨rets, outs⟩ := res
  unfold spec_l17Meet_dec at h
  dsimp only at h
  split at h
  · obtain ⟨r0, h0, h⟩ := Option.bind_eq_some_iff.1 h
    cases h
    rw [retV_eq ok h0]
    rfl
  · cases h
def spec_l1In_dec (res : Res T) : Option Bool := match res.rets, res.outs with
  | [a0], [] => (retV (T := T) 4 a0).bind fun r0 => some (r0)
  | _, _ => none
def spec_l1In_enc (y : Bool) : Res T := ⟨[vR T 4 y], []⟩
theorem spec_l1In_de (res : Res T) (y : Bool) (h : spec_l1In_dec res = some y) : res = spec_l1In_enc y := by
  obtain ⟨rets, outs⟩ := res
  unfold spec_l1In_dec at h
  dsimp only at h
  split at h
  · obtain ⟨r0, h0, h⟩ := Option.bind_eq_some_iff.1 h
    cases h
    rw [retV_eq ok h0]
    rfl
  · cases h
def spec_l1Minute_dec (res : Res T) : Option Bool := match res.rets, res.outs with
  | [a0], [] => (retV (T := T) 4 a0).bind fun r0 => some (r0)
  | _, _ => none
def spec_l1Minute_enc (y : Bool) : Res T := ⟨[vR T 4 y], []⟩
theorem spec_l1Minute_de (res : Res T) (y : Bool) (h : spec_l1Minute_dec res = some y) : res = spec_l1Minute_enc y := by
  obtain ⟨rets, outs⟩ := res
  unfold spec_l1Minute_dec at h
  dsimp only at h
  split at h
  · obtain ⟨r0, h0, h⟩ := Option.bind_eq_some_iff.1 h
    cases h
    rw [retV_eq ok h0]
    rfl
  · cases h
def spec_CallsOk_dec (res : Res T) : Option Bool := match res.rets, res.outs with
  | [a0], [] => (retV (T := T) 4 a0).bind fun r0 => some (r0)
  | _, _ => none
def spec_CallsOk_enc (y : Bool) : Res T := ⟨[vR T 4 y], []⟩
theorem spec_CallsOk_de (res : Res T) (y : Bool) (h : spec_CallsOk_dec res = some y) : res = spec_CallsOk_enc y := by
  obtain ⟨rets, outs⟩ := res
  unfold spec_CallsOk_dec at h
  dsimp only at h
  split at h
  · obtain ⟨r0, h0, h⟩ := Option.bind_eq_some_iff.1 h
    cases h
    rw [retV_eq ok h0]
    rfl
  · cases h
def spec_Clear17_dec (res : Res T) : Option Bool := match res.rets, res.outs with
  | [a0], [] => (retV (T := T) 4 a0).bind fun r0 => some (r0)
  | _, _ => none
def spec_Clear17_enc (y : Bool) : Res T := ⟨[vR T 4 y], []⟩
theorem spec_Clear17_de (res : Res T) (y : Bool) (h : spec_Clear17_dec res = some y) : res = spec_Clear17_enc y := by
  obtain ⟨rets, outs⟩ := res
  unfold spec_Clear17_dec at h
  dsimp only at h
  split at h
  · obtain ⟨r0, h0, h⟩ := Option.bind_eq_some_iff.1 h
    cases h
    rw [retV_eq ok h0]
    rfl
  · cases h
def spec_Berth_dec (res : Res T) : Option (Int × Bool) := match res.rets, res.outs with
  | [a0, a1], [] => (retV (T := T) 3 a0).bind fun r0 => (retV (T := T) 4 a1).bind fun r1 => some (r0, r1)
  | _, _ => none
def spec_Berth_enc (y : Int × Bool) : Res T := ⟨[vR T 3 y.1, vR T 4 y.2], []⟩
theorem spec_Berth_de (res : Res T) (y : Int × Bool) (h : spec_Berth_dec res = some y) : res = spec_Berth_enc y := by
  obtain ⟨rets, outs⟩ := res
  unfold spec_Berth_dec at h
  dsimp only at h
  split at h
  · obtain ⟨r0, h0, h⟩ := Option.bind_eq_some_iff.1 h
    obtain ⟨r1, h1, h⟩ := Option.bind_eq_some_iff.1 h
    cases h
    rw [retV_eq ok h0, retV_eq ok h1]
    rfl
  · cases h
def spec_l17DrawCalls_dec (res : Res T) : Option (Int × List SCall × Sl1Cur) := match res.rets, res.outs with
  | [a0, a1], [b0] => (retV (T := T) 3 a0).bind fun r0 => (retV (T := T) 44 a1).bind fun r1 => (outV (T := T) 184 b0).bind fun r2 => some (r0, r1, r2)
  | _, _ => none
def spec_l17DrawCalls_enc (y : Int × List SCall × Sl1Cur) : Res T := ⟨[vR T 3 y.1, vR T 44 y.2.1], [.var 184 y.2.2]⟩
theorem spec_l17DrawCalls_de (res : Res T) (y : Int × List SCall × Sl1Cur) (h : spec_l17DrawCalls_dec res = some y) : res = spec_l17DrawCalls_enc y := by
  obtain ⟨rets, outs⟩ := res
  unfold spec_l17DrawCalls_dec at h
  dsimp only at h
  split at h
  · obtain ⟨r0, h0, h⟩ := Option.bind_eq_some_iff.1 h
    obtain ⟨r1, h1, h⟩ := Option.bind_eq_some_iff.1 h
    obtain ⟨r2, h2, h⟩ := Option.bind_eq_some_iff.1 h
    cases h
    rw [retV_eq ok h0, retV_eq ok h1, outV_eq h2]
    rfl
  · cases h
def spec_DrawQuay_dec (res : Res T) : Option (Int × List SCall) := match res.rets, res.outs with
  | [a0, a1], [] => (retV (T := T) 3 a0).bind fun r0 => (retV (T := T) 44 a1).bind fun r1 => some (r0, r1)
  | _, _ => none
def spec_DrawQuay_enc (y : Int × List SCall) : Res T := ⟨[vR T 3 y.1, vR T 44 y.2], []⟩
theorem spec_DrawQuay_de (res : Res T) (y : Int × List SCall) (h : spec_DrawQuay_dec res = some y) : res = spec_DrawQuay_enc y := by
  obtain ⟨rets, outs⟩ := res
  unfold spec_DrawQuay_dec at h
  dsimp only at h
  split at h
  · obtain ⟨r0, h0, h⟩ := Option.bind_eq_some_iff.1 h
    obtain ⟨r1, h1, h⟩ := Option.bind_eq_some_iff.1 h
    cases h
    rw [retV_eq ok h0, retV_eq ok h1]
    rfl
  · cases h
def impl_in_dec (res : Res T) : Option Bool := match res.rets, res.outs with
  | [a0], [] => (retV (T := T) 4 a0).bind fun r0 => some (r0)
  | _, _ => none
def impl_in_enc (y : Bool) : Res T := ⟨[vR T 4 y], []⟩
theorem impl_in_de (res : Res T) (y : Bool) (h : impl_in_dec res = some y) : res = impl_in_enc y := by
  obtain ⟨rets, outs⟩ := res
  unfold impl_in_dec at h
  dsimp only at h
  split at h
  · obtain ⟨r0, h0, h⟩ := Option.bind_eq_some_iff.1 h
    cases h
    rw [retV_eq ok h0]
    rfl
  · cases h
def impl_idRight_dec (res : Res T) : Option Bool := match res.rets, res.outs with
  | [a0], [] => (retV (T := T) 4 a0).bind fun r0 => some (r0)
  | _, _ => none
def impl_idRight_enc (y : Bool) : Res T := ⟨[vR T 4 y], []⟩
theorem impl_idRight_de (res : Res T) (y : Bool) (h : impl_idRight_dec res = some y) : res = impl_idRight_enc y := by
  obtain ⟨rets, outs⟩ := res
  unfold impl_idRight_dec at h
  dsimp only at h
  split at h
  · obtain ⟨r0, h0, h⟩ := Option.bind_eq_some_iff.1 h
    cases h
    rw [retV_eq ok h0]
    rfl
  · cases h
def impl_minuteOk_dec (res : Res T) : Option Bool := match res.rets, res.outs with
  | [a0], [] => (retV (T := T) 4 a0).bind fun r0 => some (r0)
  | _, _ => none
def impl_minuteOk_enc (y : Bool) : Res T := ⟨[vR T 4 y], []⟩
theorem impl_minuteOk_de (res : Res T) (y : Bool) (h : impl_minuteOk_dec res = some y) : res = impl_minuteOk_enc y := by
  obtain ⟨rets, outs⟩ := res
  unfold impl_minuteOk_dec at h
  dsimp only at h
  split at h
  · obtain ⟨r0, h0, h⟩ := Option.bind_eq_some_iff.1 h
    cases h
    rw [retV_eq ok h0]
    rfl
  · cases h
def impl_callOk_dec (res : Res T) : Option Bool := match res.rets, res.outs with
  | [a0], [] => (retV (T := T) 4 a0).bind fun r0 => some (r0)
  | _, _ => none
def impl_callOk_enc (y : Bool) : Res T := ⟨[vR T 4 y], []⟩
theorem impl_callOk_de (res : Res T) (y : Bool) (h : impl_callOk_dec res = some y) : res = impl_callOk_enc y := by
  obtain ⟨rets, outs⟩ := res
  unfold impl_callOk_dec at h
  dsimp only at h
  split at h
  · obtain ⟨r0, h0, h⟩ := Option.bind_eq_some_iff.1 h
    cases h
    rw [retV_eq ok h0]
    rfl
  · cases h
def impl_CallsOk_dec (res : Res T) : Option Bool := match res.rets, res.outs with
  | [a0], [] => (retV (T := T) 4 a0).bind fun r0 => some (r0)
  | _, _ => none
def impl_CallsOk_enc (y : Bool) : Res T := ⟨[vR T 4 y], []⟩
theorem impl_CallsOk_de (res : Res T) (y : Bool) (h : impl_CallsOk_dec res = some y) : res = impl_CallsOk_enc y := by
  obtain ⟨rets, outs⟩ := res
  unfold impl_CallsOk_dec at h
  dsimp only at h
  split at h
  · obtain ⟨r0, h0, h⟩ := Option.bind_eq_some_iff.1 h
    cases h
    rw [retV_eq ok h0]
    rfl
  · cases h
def impl_shares_dec (res : Res T) : Option Bool := match res.rets, res.outs with
  | [a0], [] => (retV (T := T) 4 a0).bind fun r0 => some (r0)
  | _, _ => none
def impl_shares_enc (y : Bool) : Res T := ⟨[vR T 4 y], []⟩
theorem impl_shares_de (res : Res T) (y : Bool) (h : impl_shares_dec res = some y) : res = impl_shares_enc y := by
  obtain ⟨rets, outs⟩ := res
  unfold impl_shares_dec at h
  dsimp only at h
  split at h
  · obtain ⟨r0, h0, h⟩ := Option.bind_eq_some_iff.1 h
    cases h
    rw [retV_eq ok h0]
    rfl
  · cases h
def impl_Clear17_1_dec (res : Res T) : Option Bool := match res.rets, res.outs with
  | [a0], [] => (retV (T := T) 4 a0).bind fun r0 => some (r0)
  | _, _ => none
def impl_Clear17_1_enc (y : Bool) : Res T := ⟨[vR T 4 y], []⟩
theorem impl_Clear17_1_de (res : Res T) (y : Bool) (h : impl_Clear17_1_dec res = some y) : res = impl_Clear17_1_enc y := by
  obtain ⟨rets, outs⟩ := res
  unfold impl_Clear17_1_dec at h
  dsimp only at h
  split at h
  · obtain ⟨r0, h0, h⟩ := Option.bind_eq_some_iff.1 h
    cases h
    rw [retV_eq ok h0]
    rfl
  · cases h
def slices_IndexFunc_impl_Call_impl_Call__impl_Clear17_1_dec (res : Res T) : Option Int := match res.rets, res.outs with
  | [a0], [] => (retV (T := T) 3 a0).bind fun r0 => some (r0)
  | _, _ => none
def slices_IndexFunc_impl_Call_impl_Call__impl_Clear17_1_enc (y : Int) : Res T := ⟨[vR T 3 y], []⟩
theorem slices_IndexFunc_impl_Call_impl_Call__impl_Clear17_1_de (res : Res T) (y : Int) (h : slices_IndexFunc_impl_Call_impl_Call__impl_Clear17_1_dec res = some y) : res = slices_IndexFunc_impl_Call_impl_Call__impl_Clear17_1_enc y := by
  obtain ⟨rets, outs⟩ := res
  unfold slices_IndexFunc_impl_Call_impl_Call__impl_Clear17_1_dec at h
  dsimp only at h
  split at h
  · obtain ⟨r0, h0, h⟩ := Option.bind_eq_some_iff.1 h
    cases h
    rw [retV_eq ok h0]
    rfl
  · cases h
def slices_ContainsFunc_impl_Call_impl_Call__impl_Clear17_1_dec (res : Res T) : Option Bool := match res.rets, res.outs with
  | [a0], [] => (retV (T := T) 4 a0).bind fun r0 => some (r0)
  | _, _ => none
def slices_ContainsFunc_impl_Call_impl_Call__impl_Clear17_1_enc (y : Bool) : Res T := ⟨[vR T 4 y], []⟩
theorem slices_ContainsFunc_impl_Call_impl_Call__impl_Clear17_1_de (res : Res T) (y : Bool) (h : slices_ContainsFunc_impl_Call_impl_Call__impl_Clear17_1_dec res = some y) : res = slices_ContainsFunc_impl_Call_impl_Call__impl_Clear17_1_enc y := by
  obtain ⟨rets, outs⟩ := res
  unfold slices_ContainsFunc_impl_Call_impl_Call__impl_Clear17_1_dec at h
  dsimp only at h
  split at h
  · obtain ⟨r0, h0, h⟩ := Option.bind_eq_some_iff.1 h
    cases h
    rw [retV_eq ok h0]
    rfl
  · cases h
def impl_Clear17_dec (res : Res T) : Option Bool := match res.rets, res.outs with
  | [a0], [] => (retV (T := T) 4 a0).bind fun r0 => some (r0)
  | _, _ => none
def impl_Clear17_enc (y : Bool) : Res T := ⟨[vR T 4 y], []⟩
theorem impl_Clear17_de (res : Res T) (y : Bool) (h : impl_Clear17_dec res = some y) : res = impl_Clear17_enc y := by
  obtain ⟨rets, outs⟩ := res
  unfold impl_Clear17_dec at h
  dsimp only at h
  split at h
  · obtain ⟨r0, h0, h⟩ := Option.bind_eq_some_iff.1 h
    cases h
    rw [retV_eq ok h0]
    rfl
  · cases h
def impl_own_impl_Call_dec (res : Res T) : Option (List SCall) := match res.rets, res.outs with
  | [a0], [] => (retV (T := T) 44 a0).bind fun r0 => some (r0)
  | _, _ => none
def impl_own_impl_Call_enc (y : List SCall) : Res T := ⟨[vR T 44 y], []⟩
theorem impl_own_impl_Call_de (res : Res T) (y : List SCall) (h : impl_own_impl_Call_dec res = some y) : res = impl_own_impl_Call_enc y := by
  obtain ⟨rets, outs⟩ := res
  unfold impl_own_impl_Call_dec at h
  dsimp only at h
  split at h
  · obtain ⟨r0, h0, h⟩ := Option.bind_eq_some_iff.1 h
    cases h
    rw [retV_eq ok h0]
    rfl
  · cases h
def cmp_isNaN_int_dec (res : Res T) : Option Bool := match res.rets, res.outs with
  | [a0], [] => (retV (T := T) 4 a0).bind fun r0 => some (r0)
  | _, _ => none
def cmp_isNaN_int_enc (y : Bool) : Res T := ⟨[vR T 4 y], []⟩
theorem cmp_isNaN_int_de (res : Res T) (y : Bool) (h : cmp_isNaN_int_dec res = some y) : res = cmp_isNaN_int_enc y := by
  obtain ⟨rets, outs⟩ := res
  unfold cmp_isNaN_int_dec at h
  dsimp only at h
  split at h
  · obtain ⟨r0, h0, h⟩ := Option.bind_eq_some_iff.1 h
    cases h
    rw [retV_eq ok h0]
    rfl
  · cases h
def cmp_Compare_int_dec (res : Res T) : Option Int := match res.rets, res.outs with
  | [a0], [] => (retV (T := T) 3 a0).bind fun r0 => some (r0)
  | _, _ => none
def cmp_Compare_int_enc (y : Int) : Res T := ⟨[vR T 3 y], []⟩
theorem cmp_Compare_int_de (res : Res T) (y : Int) (h : cmp_Compare_int_dec res = some y) : res = cmp_Compare_int_enc y := by
  obtain ⟨rets, outs⟩ := res
  unfold cmp_Compare_int_dec at h
  dsimp only at h
  split at h
  · obtain ⟨r0, h0, h⟩ := Option.bind_eq_some_iff.1 h
    cases h
    rw [retV_eq ok h0]
    rfl
  · cases h
def impl_BerthAll_1_dec (res : Res T) : Option Int := match res.rets, res.outs with
  | [a0], [] => (retV (T := T) 3 a0).bind fun r0 => some (r0)
  | _, _ => none
def impl_BerthAll_1_enc (y : Int) : Res T := ⟨[vR T 3 y], []⟩
theorem impl_BerthAll_1_de (res : Res T) (y : Int) (h : impl_BerthAll_1_dec res = some y) : res = impl_BerthAll_1_enc y := by
  obtain ⟨rets, outs⟩ := res
  unfold impl_BerthAll_1_dec at h
  dsimp only at h
  split at h
  · obtain ⟨r0, h0, h⟩ := Option.bind_eq_some_iff.1 h
    cases h
    rw [retV_eq ok h0]
    rfl
  · cases h
def slices_insertionSortCmpFunc_int__impl_BerthAll_1_dec (res : Res T) : Option (List Int) := match res.rets, res.outs with
  | [], [b0] => (outS (T := T) 3 b0).bind fun r0 => some (r0)
  | _, _ => none
def slices_insertionSortCmpFunc_int__impl_BerthAll_1_enc (y : List Int) : Res T := ⟨[], [.sl 3 y]⟩
theorem slices_insertionSortCmpFunc_int__impl_BerthAll_1_de (res : Res T) (y : List Int) (h : slices_insertionSortCmpFunc_int__impl_BerthAll_1_dec res = some y) : res = slices_insertionSortCmpFunc_int__impl_BerthAll_1_enc y := by
  obtain ⟨rets, outs⟩ := res
  unfold slices_insertionSortCmpFunc_int__impl_BerthAll_1_dec at h
  dsimp only at h
  split at h
  · obtain ⟨r0, h0, h⟩ := Option.bind_eq_some_iff.1 h
    cases h
    rw [outS_eq h0]
    rfl
  · cases h
def slices_swapRangeCmpFunc_int__impl_BerthAll_1_dec (res : Res T) : Option (List Int) := match res.rets, res.outs with
  | [], [b0] => (outS (T := T) 3 b0).bind fun r0 => some (r0)
  | _, _ => none
def slices_swapRangeCmpFunc_int__impl_BerthAll_1_enc (y : List Int) : Res T := ⟨[], [.sl 3 y]⟩
theorem slices_swapRangeCmpFunc_int__impl_BerthAll_1_de (res : Res T) (y : List Int) (h : slices_swapRangeCmpFunc_int__impl_BerthAll_1_dec res = some y) : res = slices_swapRangeCmpFunc_int__impl_BerthAll_1_enc y := by
  obtain ⟨rets, outs⟩ := res
  unfold slices_swapRangeCmpFunc_int__impl_BerthAll_1_dec at h
  dsimp only at h
  split at h
  · obtain ⟨r0, h0, h⟩ := Option.bind_eq_some_iff.1 h
    cases h
    rw [outS_eq h0]
    rfl
  · cases h
def slices_rotateCmpFunc_int__impl_BerthAll_1_dec (res : Res T) : Option (List Int) := match res.rets, res.outs with
  | [], [b0] => (outS (T := T) 3 b0).bind fun r0 => some (r0)
  | _, _ => none
def slices_rotateCmpFunc_int__impl_BerthAll_1_enc (y : List Int) : Res T := ⟨[], [.sl 3 y]⟩
theorem slices_rotateCmpFunc_int__impl_BerthAll_1_de (res : Res T) (y : List Int) (h : slices_rotateCmpFunc_int__impl_BerthAll_1_dec res = some y) : res = slices_rotateCmpFunc_int__impl_BerthAll_1_enc y := by
  obtain ⟨rets, outs⟩ := res
  unfold slices_rotateCmpFunc_int__impl_BerthAll_1_dec at h
  dsimp only at h
  split at h
  · obtain ⟨r0, h0, h⟩ := Option.bind_eq_some_iff.1 h
    cases h
    rw [outS_eq h0]
    rfl
  · cases h
def slices_symMergeCmpFunc_int__impl_BerthAll_1_dec (res : Res T) : Option (List Int) := match res.rets, res.outs with
  | [], [b0] => (outS (T := T) 3 b0).bind fun r0 => some (r0)
  | _, _ => none
def slices_symMergeCmpFunc_int__impl_BerthAll_1_enc (y : List Int) : Res T := ⟨[], [.sl 3 y]⟩
theorem slices_symMergeCmpFunc_int__impl_BerthAll_1_de (res : Res T) (y : List Int) (h : slices_symMergeCmpFunc_int__impl_BerthAll_1_dec res = some y) : res = slices_symMergeCmpFunc_int__impl_BerthAll_1_enc y := by
  obtain ⟨rets, outs⟩ := res
  unfold slices_symMergeCmpFunc_int__impl_BerthAll_1_dec at h
  dsimp only at h
  split at h
  · obtain ⟨r0, h0, h⟩ := Option.bind_eq_some_iff.1 h
    cases h
    rw [outS_eq h0]
    rfl
  · cases h
def slices_stableCmpFunc_int__impl_BerthAll_1_dec (res : Res T) : Option (List Int) := match res.rets, res.outs with
  | [], [b0] => (outS (T := T) 3 b0).bind fun r0 => some (r0)
  | _, _ => none
def slices_stableCmpFunc_int__impl_BerthAll_1_enc (y : List Int) : Res T := ⟨[], [.sl 3 y]⟩
theorem slices_stableCmpFunc_int__impl_BerthAll_1_de (res : Res T) (y : List Int) (h : slices_stableCmpFunc_int__impl_BerthAll_1_dec res = some y) : res = slices_stableCmpFunc_int__impl_BerthAll_1_enc y := by
  obtain ⟨rets, outs⟩ := res
  unfold slices_stableCmpFunc_int__impl_BerthAll_1_dec at h
  dsimp only at h
  split at h
  · obtain ⟨r0, h0, h⟩ := Option.bind_eq_some_iff.1 h
    cases h
    rw [outS_eq h0]
    rfl
  · cases h
def slices_SortStableFunc_int_int__impl_BerthAll_1_dec (res : Res T) : Option (List Int) := match res.rets, res.outs with
  | [], [b0] => (outS (T := T) 3 b0).bind fun r0 => some (r0)
  | _, _ => none
def slices_SortStableFunc_int_int__impl_BerthAll_1_enc (y : List Int) : Res T := ⟨[], [.sl 3 y]⟩
theorem slices_SortStableFunc_int_int__impl_BerthAll_1_de (res : Res T) (y : List Int) (h : slices_SortStableFunc_int_int__impl_BerthAll_1_dec res = some y) : res = slices_SortStableFunc_int_int__impl_BerthAll_1_enc y := by
  obtain ⟨rets, outs⟩ := res
  unfold slices_SortStableFunc_int_int__impl_BerthAll_1_dec at h
  dsimp only at h
  split at h
  · obtain ⟨r0, h0, h⟩ := Option.bind_eq_some_iff.1 h
    cases h
    rw [outS_eq h0]
    rfl
  · cases h
def impl_Berth_1_dec (res : Res T) : Option Bool := match res.rets, res.outs with
  | [a0], [] => (retV (T := T) 4 a0).bind fun r0 => some (r0)
  | _, _ => none
def impl_Berth_1_enc (y : Bool) : Res T := ⟨[vR T 4 y], []⟩
theorem impl_Berth_1_de (res : Res T) (y : Bool) (h : impl_Berth_1_dec res = some y) : res = impl_Berth_1_enc y := by
  obtain ⟨rets, outs⟩ := res
  unfold impl_Berth_1_dec at h
  dsimp only at h
  split at h
  · obtain ⟨r0, h0, h⟩ := Option.bind_eq_some_iff.1 h
    cases h
    rw [retV_eq ok h0]
    rfl
  · cases h
def slices_IndexFunc_impl_Call_impl_Call__impl_Berth_1_dec (res : Res T) : Option Int := match res.rets, res.outs with
  | [a0], [] => (retV (T := T) 3 a0).bind fun r0 => some (r0)
  | _, _ => none
def slices_IndexFunc_impl_Call_impl_Call__impl_Berth_1_enc (y : Int) : Res T := ⟨[vR T 3 y], []⟩
theorem slices_IndexFunc_impl_Call_impl_Call__impl_Berth_1_de (res : Res T) (y : Int) (h : slices_IndexFunc_impl_Call_impl_Call__impl_Berth_1_dec res = some y) : res = slices_IndexFunc_impl_Call_impl_Call__impl_Berth_1_enc y := by
  obtain ⟨rets, outs⟩ := res
  unfold slices_IndexFunc_impl_Call_impl_Call__impl_Berth_1_dec at h
  dsimp only at h
  split at h
  · obtain ⟨r0, h0, h⟩ := Option.bind_eq_some_iff.1 h
    cases h
    rw [retV_eq ok h0]
    rfl
  · cases h
def impl_Berth_2_dec (res : Res T) : Option Bool := match res.rets, res.outs with
  | [a0], [] => (retV (T := T) 4 a0).bind fun r0 => some (r0)
  | _, _ => none
def impl_Berth_2_enc (y : Bool) : Res T := ⟨[vR T 4 y], []⟩
theorem impl_Berth_2_de (res : Res T) (y : Bool) (h : impl_Berth_2_dec res = some y) : res = impl_Berth_2_enc y := by
  obtain ⟨rets, outs⟩ := res
  unfold impl_Berth_2_dec at h
  dsimp only at h
  split at h
  · obtain ⟨r0, h0, h⟩ := Option.bind_eq_some_iff.1 h
    cases h
    rw [retV_eq ok h0]
    rfl
  · cases h
def slices_IndexFunc_impl_Call_impl_Call__impl_Berth_2_dec (res : Res T) : Option Int := match res.rets, res.outs with
  | [a0], [] => (retV (T := T) 3 a0).bind fun r0 => some (r0)
  | _, _ => none
def slices_IndexFunc_impl_Call_impl_Call__impl_Berth_2_enc (y : Int) : Res T := ⟨[vR T 3 y], []⟩
theorem slices_IndexFunc_impl_Call_impl_Call__impl_Berth_2_de (res : Res T) (y : Int) (h : slices_IndexFunc_impl_Call_impl_Call__impl_Berth_2_dec res = some y) : res = slices_IndexFunc_impl_Call_impl_Call__impl_Berth_2_enc y := by
  obtain ⟨rets, outs⟩ := res
  unfold slices_IndexFunc_impl_Call_impl_Call__impl_Berth_2_dec at h
  dsimp only at h
  split at h
  · obtain ⟨r0, h0, h⟩ := Option.bind_eq_some_iff.1 h
    cases h
    rw [retV_eq ok h0]
    rfl
  · cases h
def slices_ContainsFunc_impl_Call_impl_Call__impl_Berth_2_dec (res : Res T) : Option Bool := match res.rets, res.outs with
  | [a0], [] => (retV (T := T) 4 a0).bind fun r0 => some (r0)
  | _, _ => none
def slices_ContainsFunc_impl_Call_impl_Call__impl_Berth_2_enc (y : Bool) : Res T := ⟨[vR T 4 y], []⟩
theorem slices_ContainsFunc_impl_Call_impl_Call__impl_Berth_2_de (res : Res T) (y : Bool) (h : slices_ContainsFunc_impl_Call_impl_Call__impl_Berth_2_dec res = some y) : res = slices_ContainsFunc_impl_Call_impl_Call__impl_Berth_2_enc y := by
  obtain ⟨rets, outs⟩ := res
  unfold slices_ContainsFunc_impl_Call_impl_Call__impl_Berth_2_dec at h
  dsimp only at h
  split at h
  · obtain ⟨r0, h0, h⟩ := Option.bind_eq_some_iff.1 h
    cases h
    rw [retV_eq ok h0]
    rfl
  · cases h
def impl_Berth_dec (res : Res T) : Option (Int × Bool) := match res.rets, res.outs with
  | [a0, a1], [] => (retV (T := T) 3 a0).bind fun r0 => (retV (T := T) 4 a1).bind fun r1 => some (r0, r1)
  | _, _ => none
def impl_Berth_enc (y : Int × Bool) : Res T := ⟨[vR T 3 y.1, vR T 4 y.2], []⟩
theorem impl_Berth_de (res : Res T) (y : Int × Bool) (h : impl_Berth_dec res = some y) : res = impl_Berth_enc y := by
  obtain ⟨rets, outs⟩ := res
  unfold impl_Berth_dec at h
  dsimp only at h
  split at h
  · obtain ⟨r0, h0, h⟩ := Option.bind_eq_some_iff.1 h
    obtain ⟨r1, h1, h⟩ := Option.bind_eq_some_iff.1 h
    cases h
    rw [retV_eq ok h0, retV_eq ok h1]
    rfl
  · cases h
def impl_BerthAll_dec (res : Res T) : Option (List SCall × Bool) := match res.rets, res.outs with
  | [a0, a1], [] => (retV (T := T) 44 a0).bind fun r0 => (retV (T := T) 4 a1).bind fun r1 => some (r0, r1)
  | _, _ => none
def impl_BerthAll_enc (y : List SCall × Bool) : Res T := ⟨[vR T 44 y.1, vR T 4 y.2], []⟩
theorem impl_BerthAll_de (res : Res T) (y : List SCall × Bool) (h : impl_BerthAll_dec res = some y) : res = impl_BerthAll_enc y := by
  obtain ⟨rets, outs⟩ := res
  unfold impl_BerthAll_dec at h
  dsimp only at h
  split at h
  · obtain ⟨r0, h0, h⟩ := Option.bind_eq_some_iff.1 h
    obtain ⟨r1, h1, h⟩ := Option.bind_eq_some_iff.1 h
    cases h
    rw [retV_eq ok h0, retV_eq ok h1]
    rfl
  · cases h
def impl_Bound17_dec (res : Res T) : Option (Int × Bool) := match res.rets, res.outs with
  | [a0, a1], [] => (retV (T := T) 3 a0).bind fun r0 => (retV (T := T) 4 a1).bind fun r1 => some (r0, r1)
  | _, _ => none
def impl_Bound17_enc (y : Int × Bool) : Res T := ⟨[vR T 3 y.1, vR T 4 y.2], []⟩
theorem impl_Bound17_de (res : Res T) (y : Int × Bool) (h : impl_Bound17_dec res = some y) : res = impl_Bound17_enc y := by
  obtain ⟨rets, outs⟩ := res
  unfold impl_Bound17_dec at h
  dsimp only at h
  split at h
  · obtain ⟨r0, h0, h⟩ := Option.bind_eq_some_iff.1 h
    obtain ⟨r1, h1, h⟩ := Option.bind_eq_some_iff.1 h
    cases h
    rw [retV_eq ok h0, retV_eq ok h1]
    rfl
  · cases h
def laws_FnBerths_dec (res : Res T) : Option Bool := match res.rets, res.outs with
  | [a0], [] => (retV (T := T) 4 a0).bind fun r0 => some (r0)
  | _, _ => none
def laws_FnBerths_enc (y : Bool) : Res T := ⟨[vR T 4 y], []⟩
theorem laws_FnBerths_de (res : Res T) (y : Bool) (h : laws_FnBerths_dec res = some y) : res = laws_FnBerths_enc y := by
  obtain ⟨rets, outs⟩ := res
  unfold laws_FnBerths_dec at h
  dsimp only at h
  split at h
  · obtain ⟨r0, h0, h⟩ := Option.bind_eq_some_iff.1 h
    cases h
    rw [retV_eq ok h0]
    rfl
  · cases h
def laws_big_D (n : Nat) (r0 : List (A T)) : Option Bool := ocons r0 fun a0 r1 => onil r1 (obind (argV (T := T) 34 a0) fun code0 => laws_big n code0)
def laws_big_ent (n : Nat) : Ent T := ⟨21, 0, [], Bool, laws_big_D n, laws_big_enc⟩
def spec_l1New_D (n : Nat) (r0 : List (A T)) : Option Sl1Cur := ocons r0 fun a0 r1 => onil r1 (obind (argV (T := T) 34 a0) fun code0 => spec_l1New n code0)
def spec_l1New_ent (n : Nat) : Ent T := ⟨82, 1, [], Sl1Cur, spec_l1New_D n, spec_l1New_enc⟩
def spec_l1Byte_D (n : Nat) (r0 : List (A T)) : Option (Int × Sl1Cur) := ocons r0 fun a0 r1 => onil r1 (obind (argP (T := T) 184 a0) fun c0 => spec_l1Byte n c0)
def spec_l1Byte_ent (n : Nat) : Ent T := ⟨188, 2, [], Int × Sl1Cur, spec_l1Byte_D n, spec_l1Byte_enc⟩
def spec_l1Below_D (n : Nat) (r0 : List (A T)) : Option (Int × Sl1Cur) := ocons r0 fun a0 r1 => ocons r1 fun a1 r2 => onil r2 (obind (argP (T := T) 184 a0) fun c0 => obind (argV (T := T) 3 a1) fun n1 => spec_l1Below n c0 n1)
def spec_l1Below_ent (n : Nat) : Ent T := ⟨132, 3, [], Int × Sl1Cur, spec_l1Below_D n, spec_l1Below_enc⟩
def spec_l1Once_D (n : Nat) (r0 : List (A T)) : Option (Bool × Sl1Cur) := ocons r0 fun a0 r1 => ocons r1 fun a1 r2 => onil r2 (obind (argP (T := T) 184 a0) fun c0 => obind (argV (T := T) 3 a1) fun n1 => spec_l1Once n c0 n1)
def spec_l1Once_ent (n : Nat) : Ent T := ⟨172, 4, [], Bool × Sl1Cur, spec_l1Once_D n, spec_l1Once_enc⟩
def spec_l17Meet_D (n : Nat) (r0 : List (A T)) : Option Bool := ocons r0 fun a0 r1 => ocons r1 fun a1 r2 => onil r2 (obind (argV (T := T) 55 a0) fun a0 => obind (argV (T := T) 55 a1) fun b1 => spec_l17Meet n a0 b1)
def spec_l17Meet_ent (n : Nat) : Ent T := ⟨169, 5, [], Bool, spec_l17Meet_D n, spec_l17Meet_enc⟩
def spec_l1In_D (n : Nat) (r0 : List (A T)) : Option Bool := ocons r0 fun a0 r1 => ocons r1 fun a1 r2 => ocons r2 fun a2 r3 => onil r3 (obind (argV (T := T) 3 a0) fun x0 => obind (argV (T := T) 3 a1) fun a1 => obind (argV (T := T) 3 a2) fun b2 => spec_l1In n x0 a1 b2)
def spec_l1In_ent (n : Nat) : Ent T := ⟨73, 6, [], Bool, spec_l1In_D n, spec_l1In_enc⟩
def spec_l1Minute_D (n : Nat) (r0 : List (A T)) : Option Bool := ocons r0 fun a0 r1 => onil r1 (obind (argV (T := T) 3 a0) fun x0 => spec_l1Minute n x0)
def spec_l1Minute_ent (n : Nat) : Ent T := ⟨163, 7, [], Bool, spec_l1Minute_D n, spec_l1Minute_enc⟩
def spec_CallsOk_D (n : Nat) (r0 : List (A T)) : Option Bool := ocons r0 fun a0 r1 => ocons r1 fun a1 r2 => onil r2 (obind (argV (T := T) 3 a0) fun long0 => obind (argV (T := T) 44 a1) fun calls1 => spec_CallsOk n long0 calls1)
def spec_CallsOk_ent (n : Nat) : Ent T := ⟨170, 8, [], Bool, spec_CallsOk_D n, spec_CallsOk_enc⟩
def spec_Clear17_D (n : Nat) (r0 : List (A T)) : Option Bool := ocons r0 fun a0 r1 => ocons r1 fun a1 r2 => onil r2 (obind (argV (T := T) 3 a0) fun long0 => obind (argV (T := T) 44 a1) fun calls1 => spec_Clear17 n long0 calls1)
def spec_Clear17_ent (n : Nat) : Ent T := ⟨89, 9, [], Bool, spec_Clear17_D n, spec_Clear17_enc⟩
def spec_Berth_D (n : Nat) (r0 : List (A T)) : Option (Int × Bool) := ocons r0 fun a0 r1 => ocons r1 fun a1 r2 => ocons r2 fun a2 r3 => onil r3 (obind (argV (T := T) 3 a0) fun long0 => obind (argV (T := T) 44 a1) fun calls1 => obind (argV (T := T) 3 a2) fun id2 => spec_Berth n long0 calls1 id2)
def spec_Berth_ent (n : Nat) : Ent T := ⟨90, 10, [], Int × Bool, spec_Berth_D n, spec_Berth_enc⟩
def spec_l17DrawCalls_D (n : Nat) (r0 : List (A T)) : Option (Int × List SCall × Sl1Cur) := ocons r0 fun a0 r1 => ocons r1 fun a1 r2 => onil r2 (obind (argP (T := T) 184 a0) fun c0 => obind (argV (T := T) 4 a1) fun placed1 => spec_l17DrawCalls n c0 placed1)
def spec_l17DrawCalls_ent (n : Nat) : Ent T := ⟨96, 11, [], Int × List SCall × Sl1Cur, spec_l17DrawCalls_D n, spec_l17DrawCalls_enc⟩
def spec_DrawQuay_D (n : Nat) (r0 : List (A T)) : Option (Int × List SCall) := ocons r0 fun a0 r1 => onil r1 (obind (argV (T := T) 34 a0) fun code0 => spec_DrawQuay n code0)
def spec_DrawQuay_ent (n : Nat) : Ent T := ⟨33, 12, [], Int × List SCall, spec_DrawQuay_D n, spec_DrawQuay_enc⟩
def impl_in_D (n : Nat) (r0 : List (A T)) : Option Bool := ocons r0 fun a0 r1 => ocons r1 fun a1 r2 => ocons r2 fun a2 r3 => onil r3 (obind (argV (T := T) 3 a0) fun n0 => obind (argV (T := T) 3 a1) fun least1 => obind (argV (T := T) 3 a2) fun most2 => impl_in n n0 least1 most2)
def impl_in_ent (n : Nat) : Ent T := ⟨87, 13, [], Bool, impl_in_D n, impl_in_enc⟩
def impl_idRight_D (n : Nat) (r0 : List (A T)) : Option Bool := ocons r0 fun a0 r1 => onil r1 (obind (argV (T := T) 3 a0) fun n0 => impl_idRight n n0)
def impl_idRight_ent (n : Nat) : Ent T := ⟨118, 14, [], Bool, impl_idRight_D n, impl_idRight_enc⟩
def impl_minuteOk_D (n : Nat) (r0 : List (A T)) : Option Bool := ocons r0 fun a0 r1 => onil r1 (obind (argV (T := T) 3 a0) fun n0 => impl_minuteOk n n0)
def impl_minuteOk_ent (n : Nat) : Ent T := ⟨88, 15, [], Bool, impl_minuteOk_D n, impl_minuteOk_enc⟩
def impl_callOk_D (n : Nat) (r0 : List (A T)) : Option Bool := ocons r0 fun a0 r1 => ocons r1 fun a1 r2 => onil r2 (obind (argV (T := T) 3 a0) fun long0 => obind (argV (T := T) 55 a1) fun c1 => impl_callOk n long0 c1)
def impl_callOk_ent (n : Nat) : Ent T := ⟨97, 16, [], Bool, impl_callOk_D n, impl_callOk_enc⟩
def impl_CallsOk_D (n : Nat) (r0 : List (A T)) : Option Bool := ocons r0 fun a0 r1 => ocons r1 fun a1 r2 => onil r2 (obind (argV (T := T) 3 a0) fun long0 => obind (argV (T := T) 44 a1) fun calls1 => impl_CallsOk n long0 calls1)
def impl_CallsOk_ent (n : Nat) : Ent T := ⟨34, 17, [], Bool, impl_CallsOk_D n, impl_CallsOk_enc⟩
def impl_shares_D (n : Nat) (r0 : List (A T)) : Option Bool := ocons r0 fun a0 r1 => ocons r1 fun a1 r2 => onil r2 (obind (argV (T := T) 55 a0) fun a0 => obind (argV (T := T) 55 a1) fun b1 => impl_shares n a0 b1)
def impl_shares_ent (n : Nat) : Ent T := ⟨100, 18, [], Bool, impl_shares_D n, impl_shares_enc⟩
def impl_Clear17_1_D (n : Nat) (r0 : List (A T)) : Option Bool := ocons r0 fun a0 r1 => ocons r1 fun a1 r2 => onil r2 (obind (argV (T := T) 55 a0) fun x0 => obind (argP (T := T) 55 a1) fun a1 => impl_Clear17_1 n x0 a1)
def impl_Clear17_1_ent (n : Nat) : Ent T := ⟨99, 19, [], Bool, impl_Clear17_1_D n, impl_Clear17_1_enc⟩
def slices_IndexFunc_impl_Call_impl_Call__impl_Clear17_1_D (n : Nat) (ar : List (A T)) : Option Int := match ar with
  | [a0, .fn _ [k1_0]] => obind (argV (T := T) 44 a0) fun s0 => obind (argP (T := T) 55 k1_0) fun f1c0 => slices_IndexFunc_impl_Call_impl_Call__impl_Clear17_1 n s0 f1c0
  | _ => none
def slices_IndexFunc_impl_Call_impl_Call__impl_Clear17_1_ent (n : Nat) : Ent T := ⟨101, 20, [99], Int, slices_IndexFunc_impl_Call_impl_Call__impl_Clear17_1_D n, slices_IndexFunc_impl_Call_impl_Call__impl_Clear17_1_enc⟩
def slices_ContainsFunc_impl_Call_impl_Call__impl_Clear17_1_D (n : Nat) (ar : List (A T)) : Option Bool := match ar with
  | [a0, .fn _ [k1_0]] => obind (argV (T := T) 44 a0) fun s0 => obind (argP (T := T) 55 k1_0) fun f1c0 => slices_ContainsFunc_impl_Call_impl_Call__impl_Clear17_1 n s0 f1c0
  | _ => none
def slices_ContainsFunc_impl_Call_impl_Call__impl_Clear17_1_ent (n : Nat) : Ent T := ⟨98, 21, [99], Bool, slices_ContainsFunc_impl_Call_impl_Call__impl_Clear17_1_D n, slices_ContainsFunc_impl_Call_impl_Call__impl_Clear17_1_enc⟩
def impl_Clear17_D (n : Nat) (r0 : List (A T)) : Option Bool := ocons r0 fun a0 r1 => ocons r1 fun a1 r2 => onil r2 (obind (argV (T := T) 3 a0) fun long0 => obind (argV (T := T) 44 a1) fun calls1 => impl_Clear17 n long0 calls1)
def impl_Clear17_ent (n : Nat) : Ent T := ⟨35, 22, [], Bool, impl_Clear17_D n, impl_Clear17_enc⟩
def impl_own_impl_Call_D (n : Nat) (r0 : List (A T)) : Option (List SCall) := ocons r0 fun a0 r1 => onil r1 (obind (argV (T := T) 44 a0) fun l0 => impl_own_impl_Call n l0)
def impl_own_impl_Call_ent (n : Nat) : Ent T := ⟨92, 23, [], List SCall, impl_own_impl_Call_D n, impl_own_impl_Call_enc⟩
def cmp_isNaN_int_D (n : Nat) (r0 : List (A T)) : Option Bool := ocons r0 fun a0 r1 => onil r1 (obind (argV (T := T) 3 a0) fun x0 => cmp_isNaN_int n x0)
def cmp_isNaN_int_ent (n : Nat) : Ent T := ⟨168, 24, [], Bool, cmp_isNaN_int_D n, cmp_isNaN_int_enc⟩
def cmp_Compare_int_D (n : Nat) (r0 : List (A T)) : Option Int := ocons r0 fun a0 r1 => ocons r1 fun a1 r2 => onil r2 (obind (argV (T := T) 3 a0) fun x0 => obind (argV (T := T) 3 a1) fun y1 => cmp_Compare_int n x0 y1)
def cmp_Compare_int_ent (n : Nat) : Ent T := ⟨86, 25, [], Int, cmp_Compare_int_D n, cmp_Compare_int_enc⟩
def impl_BerthAll_1_D (n : Nat) (r0 : List (A T)) : Option Int := ocons r0 fun a0 r1 => ocons r1 fun a1 r2 => ocons r2 fun a2 r3 => onil r3 (obind (argV (T := T) 3 a0) fun a0 => obind (argV (T := T) 3 a1) fun b1 => obind (argP (T := T) 44 a2) fun a2 => impl_BerthAll_1 n a0 b1 a2)
def impl_BerthAll_1_ent (n : Nat) : Ent T := ⟨94, 26, [], Int, impl_BerthAll_1_D n, impl_BerthAll_1_enc⟩
def slices_insertionSortCmpFunc_int__impl_BerthAll_1_D (n : Nat) (ar : List (A T)) : Option (List Int) := match ar with
  | [a0, a1, a2, .fn _ [k3_0]] => obind (argV (T := T) 24 a0) fun data0 => obind (argV (T := T) 3 a1) fun a1 => obind (argV (T := T) 3 a2) fun b2 => obind (argP (T := T) 44 k3_0) fun cmp3c0 => slices_insertionSortCmpFunc_int__impl_BerthAll_1 n data0 a1 b2 cmp3c0
  | _ => none
def slices_insertionSortCmpFunc_int__impl_BerthAll_1_ent (n : Nat) : Ent T := ⟨201, 27, [94], List Int, slices_insertionSortCmpFunc_int__impl_BerthAll_1_D n, slices_insertionSortCmpFunc_int__impl_BerthAll_1_enc⟩
def slices_swapRangeCmpFunc_int__impl_BerthAll_1_D (n : Nat) (ar : List (A T)) : Option (List Int) := match ar with
  | [a0, a1, a2, a3, .fn _ [k4_0]] => obind (argV (T := T) 24 a0) fun data0 => obind (argV (T := T) 3 a1) fun a1 => obind (argV (T := T) 3 a2) fun b2 => obind (argV (T := T) 3 a3) fun n3 => obind (argP (T := T) 44 k4_0) fun cmp4c0 => slices_swapRangeCmpFunc_int__impl_BerthAll_1 n data0 a1 b2 n3 cmp4c0
  | _ => none
def slices_swapRangeCmpFunc_int__impl_BerthAll_1_ent (n : Nat) : Ent T := ⟨248, 28, [94], List Int, slices_swapRangeCmpFunc_int__impl_BerthAll_1_D n, slices_swapRangeCmpFunc_int__impl_BerthAll_1_enc⟩
def slices_rotateCmpFunc_int__impl_BerthAll_1_D (n : Nat) (ar : List (A T)) : Option (List Int) := match ar with
  | [a0, a1, a2, a3, .fn _ [k4_0]] => obind (argV (T := T) 24 a0) fun data0 => obind (argV (T := T) 3 a1) fun a1 => obind (argV (T := T) 3 a2) fun m2 => obind (argV (T := T) 3 a3) fun b3 => obind (argP (T := T) 44 k4_0) fun cmp4c0 => slices_rotateCmpFunc_int__impl_BerthAll_1 n data0 a1 m2 b3 cmp4c0
  | _ => none
def slices_rotateCmpFunc_int__impl_BerthAll_1_ent (n : Nat) : Ent T := ⟨239, 29, [94], List Int, slices_rotateCmpFunc_int__impl_BerthAll_1_D n, slices_rotateCmpFunc_int__impl_BerthAll_1_enc⟩
def slices_symMergeCmpFunc_int__impl_BerthAll_1_Dr (rc : List Int → Int → Int → Int → List SCall → Option (List Int)) (ar : List (A T)) : Option (List Int) := match ar with
  | [a0, a1, a2, a3, .fn _ [k4_0]] => obind (argV (T := T) 24 a0) fun data0 => obind (argV (T := T) 3 a1) fun a1 => obind (argV (T := T) 3 a2) fun m2 => obind (argV (T := T) 3 a3) fun b3 => obind (argP (T := T) 44 k4_0) fun cmp4c0 => rc data0 a1 m2 b3 cmp4c0
  | _ => none
def slices_symMergeCmpFunc_int__impl_BerthAll_1_D (n : Nat) (ar : List (A T)) : Option (List Int) := slices_symMergeCmpFunc_int__impl_BerthAll_1_Dr (slices_symMergeCmpFunc_int__impl_BerthAll_1_r n n) ar
def slices_symMergeCmpFunc_int__impl_BerthAll_1_ent (n : Nat) : Ent T := ⟨211, 30, [94], List Int, slices_symMergeCmpFunc_int__impl_BerthAll_1_D n, slices_symMergeCmpFunc_int__impl_BerthAll_1_enc⟩
def slices_stableCmpFunc_int__impl_BerthAll_1_D (n : Nat) (ar : List (A T)) : Option (List Int) := match ar with
  | [a0, a1, .fn _ [k2_0]] => obind (argV (T := T) 24 a0) fun data0 => obind (argV (T := T) 3 a1) fun n1 => obind (argP (T := T) 44 k2_0) fun cmp2c0 => slices_stableCmpFunc_int__impl_BerthAll_1 n data0 n1 cmp2c0
  | _ => none
def slices_stableCmpFunc_int__impl_BerthAll_1_ent (n : Nat) : Ent T := ⟨171, 31, [94], List Int, slices_stableCmpFunc_int__impl_BerthAll_1_D n, slices_stableCmpFunc_int__impl_BerthAll_1_enc⟩
def slices_SortStableFunc_int_int__impl_BerthAll_1_D (n : Nat) (ar : List (A T)) : Option (List Int) := match ar with
  | [a0, .fn _ [k1_0]] => obind (argV (T := T) 24 a0) fun x0 => obind (argP (T := T) 44 k1_0) fun cmp1c0 => slices_SortStableFunc_int_int__impl_BerthAll_1 n x0 cmp1c0
  | _ => none
def slices_SortStableFunc_int_int__impl_BerthAll_1_ent (n : Nat) : Ent T := ⟨93, 32, [94], List Int, slices_SortStableFunc_int_int__impl_BerthAll_1_D n, slices_SortStableFunc_int_int__impl_BerthAll_1_enc⟩
def impl_Berth_1_D (n : Nat) (r0 : List (A T)) : Option Bool := ocons r0 fun a0 r1 => ocons r1 fun a1 r2 => onil r2 (obind (argV (T := T) 55 a0) fun c0 => obind (argP (T := T) 3 a1) fun a1 => impl_Berth_1 n c0 a1)
def impl_Berth_1_ent (n : Nat) : Ent T := ⟨102, 33, [], Bool, impl_Berth_1_D n, impl_Berth_1_enc⟩
def slices_IndexFunc_impl_Call_impl_Call__impl_Berth_1_D (n : Nat) (ar : List (A T)) : Option Int := match ar with
  | [a0, .fn _ [k1_0]] => obind (argV (T := T) 44 a0) fun s0 => obind (argP (T := T) 3 k1_0) fun f1c0 => slices_IndexFunc_impl_Call_impl_Call__impl_Berth_1 n s0 f1c0
  | _ => none
def slices_IndexFunc_impl_Call_impl_Call__impl_Berth_1_ent (n : Nat) : Ent T := ⟨101, 34, [102], Int, slices_IndexFunc_impl_Call_impl_Call__impl_Berth_1_D n, slices_IndexFunc_impl_Call_impl_Call__impl_Berth_1_enc⟩
def impl_Berth_2_D (n : Nat) (r0 : List (A T)) : Option Bool := ocons r0 fun a0 r1 => ocons r1 fun a1 r2 => ocons r2 fun a2 r3 => onil r3 (obind (argV (T := T) 55 a0) fun x0 => obind (argP (T := T) 3 a1) fun a1 => obind (argP (T := T) 55 a2) fun a2 => impl_Berth_2 n x0 a1 a2)
def impl_Berth_2_ent (n : Nat) : Ent T := ⟨103, 35, [], Bool, impl_Berth_2_D n, impl_Berth_2_enc⟩
def slices_IndexFunc_impl_Call_impl_Call__impl_Berth_2_D (n : Nat) (ar : List (A T)) : Option Int := match ar with
  | [a0, .fn _ [k1_0, k1_1]] => obind (argV (T := T) 44 a0) fun s0 => obind (argP (T := T) 3 k1_0) fun f1c0 => obind (argP (T := T) 55 k1_1) fun f1c1 => slices_IndexFunc_impl_Call_impl_Call__impl_Berth_2 n s0 f1c0 f1c1
  | _ => none
def slices_IndexFunc_impl_Call_impl_Call__impl_Berth_2_ent (n : Nat) : Ent T := ⟨101, 36, [103], Int, slices_IndexFunc_impl_Call_impl_Call__impl_Berth_2_D n, slices_IndexFunc_impl_Call_impl_Call__impl_Berth_2_enc⟩
def slices_ContainsFunc_impl_Call_impl_Call__impl_Berth_2_D (n : Nat) (ar : List (A T)) : Option Bool := match ar with
  | [a0, .fn _ [k1_0, k1_1]] => obind (argV (T := T) 44 a0) fun s0 => obind (argP (T := T) 3 k1_0) fun f1c0 => obind (argP (T := T) 55 k1_1) fun f1c1 => slices_ContainsFunc_impl_Call_impl_Call__impl_Berth_2 n s0 f1c0 f1c1
  | _ => none
def slices_ContainsFunc_impl_Call_impl_Call__impl_Berth_2_ent (n : Nat) : Ent T := ⟨98, 37, [103], Bool, slices_ContainsFunc_impl_Call_impl_Call__impl_Berth_2_D n, slices_ContainsFunc_impl_Call_impl_Call__impl_Berth_2_enc⟩
def impl_Berth_D (n : Nat) (r0 : List (A T)) : Option (Int × Bool) := ocons r0 fun a0 r1 => ocons r1 fun a1 r2 => ocons r2 fun a2 r3 => onil r3 (obind (argV (T := T) 3 a0) fun long0 => obind (argV (T := T) 44 a1) fun calls1 => obind (argV (T := T) 3 a2) fun id2 => impl_Berth n long0 calls1 id2)
def impl_Berth_ent (n : Nat) : Ent T := ⟨36, 38, [], Int × Bool, impl_Berth_D n, impl_Berth_enc⟩
def impl_BerthAll_D (n : Nat) (r0 : List (A T)) : Option (List SCall × Bool) := ocons r0 fun a0 r1 => ocons r1 fun a1 r2 => onil r2 (obind (argV (T := T) 3 a0) fun long0 => obind (argV (T := T) 44 a1) fun calls1 => impl_BerthAll n long0 calls1)
def impl_BerthAll_ent (n : Nat) : Ent T := ⟨29, 39, [], List SCall × Bool, impl_BerthAll_D n, impl_BerthAll_enc⟩
def impl_Bound17_D (n : Nat) (r0 : List (A T)) : Option (Int × Bool) := ocons r0 fun a0 r1 => ocons r1 fun a1 r2 => onil r2 (obind (argV (T := T) 3 a0) fun long0 => obind (argV (T := T) 44 a1) fun calls1 => impl_Bound17 n long0 calls1)
def impl_Bound17_ent (n : Nat) : Ent T := ⟨37, 40, [], Int × Bool, impl_Bound17_D n, impl_Bound17_enc⟩
def laws_FnBerths_D (n : Nat) (r0 : List (A T)) : Option Bool := ocons r0 fun a0 r1 => onil r1 (obind (argV (T := T) 34 a0) fun code0 => laws_FnBerths n code0)
def laws_FnBerths_ent (n : Nat) : Ent T := ⟨6, 41, [], Bool, laws_FnBerths_D n, laws_FnBerths_enc⟩
def ents (n : Nat) : List (Ent T) := [laws_big_ent n, spec_l1New_ent n, spec_l1Byte_ent n, spec_l1Below_ent n, spec_l1Once_ent n, spec_l17Meet_ent n, spec_l1In_ent n, spec_l1Minute_ent n, spec_CallsOk_ent n, spec_Clear17_ent n, spec_Berth_ent n, spec_l17DrawCalls_ent n, spec_DrawQuay_ent n, impl_in_ent n, impl_idRight_ent n, impl_minuteOk_ent n, impl_callOk_ent n, impl_CallsOk_ent n, impl_shares_ent n, impl_Clear17_1_ent n, slices_IndexFunc_impl_Call_impl_Call__impl_Clear17_1_ent n, slices_ContainsFunc_impl_Call_impl_Call__impl_Clear17_1_ent n, impl_Clear17_ent n, impl_own_impl_Call_ent n, cmp_isNaN_int_ent n, cmp_Compare_int_ent n, impl_BerthAll_1_ent n, slices_insertionSortCmpFunc_int__impl_BerthAll_1_ent n, slices_swapRangeCmpFunc_int__impl_BerthAll_1_ent n, slices_rotateCmpFunc_int__impl_BerthAll_1_ent n, slices_symMergeCmpFunc_int__impl_BerthAll_1_ent n, slices_stableCmpFunc_int__impl_BerthAll_1_ent n, slices_SortStableFunc_int_int__impl_BerthAll_1_ent n, impl_Berth_1_ent n, slices_IndexFunc_impl_Call_impl_Call__impl_Berth_1_ent n, impl_Berth_2_ent n, slices_IndexFunc_impl_Call_impl_Call__impl_Berth_2_ent n, slices_ContainsFunc_impl_Call_impl_Call__impl_Berth_2_ent n, impl_Berth_ent n, impl_BerthAll_ent n, impl_Bound17_ent n, laws_FnBerths_ent n]
abbrev Phi (n i : Nat) {R : Type} (f : Nat) (ar : List (A T)) (K : Res T → Option R) : Option R := PhiE (ents n) i f ar K
theorem mixed : Try.prog.follows .mixedOrders = true := by kernel_rfl
noncomputable def laws_big_code : Code := match Try.f21.body with | some c => c | none => .skip
def laws_big_ann : Ann := fun id => none
def laws_big_Ls (n : Nat) : Nat → Option (LSpec T) := fun id => none
theorem laws_big_tie (n : Nat) (code0 : List Int) : evF (T := T) (Phi n 0) (laws_big_Ls n) laws_big_ann n Try.f21 (sg 21) [vA T 34 code0] laws_big_dec = laws_big n code0 := by kernel_rfl
theorem laws_big_lo (n : Nat) : LoopsOk (T := T) (Phi n 0) (laws_big_Ls n) laws_big_ann n laws_big_code := loopsOk_all (cs := []) (by kernel_rfl) trivial
theorem laws_big_ok (n : Nat) : EntOk Try.prog (ents n) (laws_big_ent n) := by
  intro hs ar y hg h
  replace h : laws_big_D n ar = some y := h
  unfold laws_big_D at h
  replace h := ocons_some h
  obtain ⟨a0, r0, rfl, h⟩ := h
  replace h := onil_some h
  obtain ⟨rfl, h⟩ := h
  obtain ⟨code0, qh0, h⟩ := obind_some h
  rw [argV_eq ok qh0]
  exact call_of (phiE_nat _ _) hs ok mixed Try.func21 (c := laws_big_code) (by kernel_rfl) (laws_big_lo n) (by kernel_rfl) (by kernel_rfl) (by kernel_rfl) laws_big_de ((laws_big_tie n code0).trans h)
noncomputable def spec_l1New_code : Code := match Try.f82.body with | some c => c | none => .skip
def spec_l1New_3_sv : List Sv := [.one (.arr 5), .one (.int .i64), .one (.int .i64)]
def spec_l1New_3_so : List So := []
def spec_l1New_3_emb (c : List Int) (x : Int × Int) : EVs T spec_l1New_3_sv × EOs T spec_l1New_3_so := ((c, x.1, x.2, ()), ())
def spec_l1New_3_prj (y : EVs T spec_l1New_3_sv × EOs T spec_l1New_3_so) : List Int × (Int × Int) := ((y.1.1), (y.1.2.1, y.1.2.2.1))
def spec_l1New_3_b (n : Nat) {R : Type} (K : Ex → Sm.St T → Option R) (c : List Int) (x : Int × Int) (J : (Int × Int) → Option R) : Option R :=
  spec_l1New_L3 n (fun (y1 : Int) => K (.exit 0) (stOf (T := T) [0, 3] [] [.one (.arr 5), .one (.int .i64)] [] (c, y1, ()) ())) (fun z0 z1 => J (z0, z1)) c x.1 x.2
def spec_l1New_3_sp (n : Nat) : LSpec T := mkSpec T ⟨[], [0, 3, 4], []⟩ spec_l1New_3_sv spec_l1New_3_so (List Int) (Int × Int) spec_l1New_3_emb spec_l1New_3_prj (spec_l1New_3_b n)
noncomputable def spec_l1New_3_c : Code := ((loopCodes spec_l1New_code)[0]?).getD .skip
def spec_l1New_ann : Ann := fun id => bif Nat.beq id 3000003 then some ⟨[], [0, 3], []⟩ else none
def spec_l1New_Ls (n : Nat) : Nat → Option (LSpec T) := fun id => bif Nat.beq id 3 then some (spec_l1New_3_sp n) else none
theorem spec_l1New_3_le (n : Nat) : LoopEq (T := T) (Phi n 1) (spec_l1New_Ls n) spec_l1New_ann n spec_l1New_3_c (spec_l1New_3_sp n) := ⟨mkSpec_dec (fun y => rfl), fun c x => by kernel_rfl, fun K J c x => by kernel_rfl⟩
theorem spec_l1New_tie (n : Nat) (code0 : List Int) : evF (T := T) (Phi n 1) (spec_l1New_Ls n) spec_l1New_ann n Try.f82 (sg 82) [vA T 34 code0] spec_l1New_dec = spec_l1New n code0 := by kernel_rfl
theorem spec_l1New_lo (n : Nat) : LoopsOk (T := T) (Phi n 1) (spec_l1New_Ls n) spec_l1New_ann n spec_l1New_code := loopsOk_all (cs := [spec_l1New_3_c]) (by kernel_rfl) ⟨⟨_, by kernel_rfl, spec_l1New_3_le n⟩, trivial⟩
theorem spec_l1New_ok (n : Nat) : EntOk Try.prog (ents n) (spec_l1New_ent n) := by
  intro hs ar y hg h
  replace h : spec_l1New_D n ar = some y := h
  unfold spec_l1New_D at h
  replace h := ocons_some h
  obtain ⟨a0, r0, rfl, h⟩ := h
  replace h := onil_some h
  obtain ⟨rfl, h⟩ := h
  obtain ⟨code0, qh0, h⟩ := obind_some h
  rw [argV_eq ok qh0]
  exact call_of (phiE_nat _ _) hs ok mixed Try.func82 (c := spec_l1New_code) (by kernel_rfl) (spec_l1New_lo n) (by kernel_rfl) (by kernel_rfl) (by kernel_rfl) spec_l1New_de ((spec_l1New_tie n code0).trans h)
noncomputable def spec_l1Byte_code : Code := match Try.f188.body with | some c => c | none => .skip
def spec_l1Byte_ann : Ann := fun id => none
def spec_l1Byte_Ls (n : Nat) : Nat → Option (LSpec T) := fun id => none
theorem spec_l1Byte_tie (n : Nat) (c0 : Sl1Cur) : evF (T := T) (Phi n 2) (spec_l1Byte_Ls n) spec_l1Byte_ann n Try.f188 (sg 188) [.ptr 184 c0] spec_l1Byte_dec = spec_l1Byte n c0 := by kernel_rfl
theorem spec_l1Byte_lo (n : Nat) : LoopsOk (T := T) (Phi n 2) (spec_l1Byte_Ls n) spec_l1Byte_ann n spec_l1Byte_code := loopsOk_all (cs := []) (by kernel_rfl) trivial
theorem spec_l1Byte_ok (n : Nat) : EntOk Try.prog (ents n) (spec_l1Byte_ent n) := by
  intro hs ar y hg h
  replace h : spec_l1Byte_D n ar = some y := h
  unfold spec_l1Byte_D at h
  replace h := ocons_some h
  obtain ⟨a0, r0, rfl, h⟩ := h
  replace h := onil_some h
  obtain ⟨rfl, h⟩ := h
  obtain ⟨c0, qh0, h⟩ := obind_some h
  rw [argP_eq qh0]
  exact call_of (phiE_nat _ _) hs ok mixed Try.func188 (c := spec_l1Byte_code) (by kernel_rfl) (spec_l1Byte_lo n) (by kernel_rfl) (by kernel_rfl) (by kernel_rfl) spec_l1Byte_de ((spec_l1Byte_tie n c0).trans h)
noncomputable def spec_l1Below_code : Code := match Try.f132.body with | some c => c | none => .skip
def spec_l1Below_ann : Ann := fun id => none
def spec_l1Below_Ls (n : Nat) : Nat → Option (LSpec T) := fun id => none
theorem spec_l1Below_tie (n : Nat) (c0 : Sl1Cur) (n1 : Int) : evF (T := T) (Phi n 3) (spec_l1Below_Ls n) spec_l1Below_ann n Try.f132 (sg 132) [.ptr 184 c0, vA T 3 n1] spec_l1Below_dec = spec_l1Below n c0 n1 := by kernel_rfl
theorem spec_l1Below_lo (n : Nat) : LoopsOk (T := T) (Phi n 3) (spec_l1Below_Ls n) spec_l1Below_ann n spec_l1Below_code := loopsOk_all (cs := []) (by kernel_rfl) trivial
theorem spec_l1Below_ok (n : Nat) : EntOk Try.prog (ents n) (spec_l1Below_ent n) := by
  intro hs ar y hg h
  replace h : spec_l1Below_D n ar = some y := h
  unfold spec_l1Below_D at h
  replace h := ocons_some h
  obtain ⟨a0, r0, rfl, h⟩ := h
  replace h := ocons_some h
  obtain ⟨a1, r1, rfl, h⟩ := h
  replace h := onil_some h
  obtain ⟨rfl, h⟩ := h
  obtain ⟨c0, qh0, h⟩ := obind_some h
  obtain ⟨n1, qh1, h⟩ := obind_some h
  rw [argP_eq qh0, argV_eq ok qh1]
  exact call_of (phiE_nat _ _) hs ok mixed Try.func132 (c := spec_l1Below_code) (by kernel_rfl) (spec_l1Below_lo n) (by kernel_rfl) (by kernel_rfl) (by kernel_rfl) spec_l1Below_de ((spec_l1Below_tie n c0 n1).trans h)
noncomputable def spec_l1Once_code : Code := match Try.f172.body with | some c => c | none => .skip
def spec_l1Once_ann : Ann := fun id => none
def spec_l1Once_Ls (n : Nat) : Nat → Option (LSpec T) := fun id => none
theorem spec_l1Once_tie (n : Nat) (c0 : Sl1Cur) (n1 : Int) : evF (T := T) (Phi n 4) (spec_l1Once_Ls n) spec_l1Once_ann n Try.f172 (sg 172) [.ptr 184 c0, vA T 3 n1] spec_l1Once_dec = spec_l1Once n c0 n1 := by kernel_rfl
theorem spec_l1Once_lo (n : Nat) : LoopsOk (T := T) (Phi n 4) (spec_l1Once_Ls n) spec_l1Once_ann n spec_l1Once_code := loopsOk_all (cs := []) (by kernel_rfl) trivial
theorem spec_l1Once_ok (n : Nat) : EntOk Try.prog (ents n) (spec_l1Once_ent n) := by
  intro hs ar y hg h
  replace h : spec_l1Once_D n ar = some y := h
  unfold spec_l1Once_D at h
  replace h := ocons_some h
  obtain ⟨a0, r0, rfl, h⟩ := h
  replace h := ocons_some h
  obtain ⟨a1, r1, rfl, h⟩ := h
  replace h := onil_some h
  obtain ⟨rfl, h⟩ := h
  obtain ⟨c0, qh0, h⟩ := obind_some h
  obtain ⟨n1, qh1, h⟩ := obind_some h
  rw [argP_eq qh0, argV_eq ok qh1]
  exact call_of (phiE_nat _ _) hs ok mixed Try.func172 (c := spec_l1Once_code) (by kernel_rfl) (spec_l1Once_lo n) (by kernel_rfl) (by kernel_rfl) (by kernel_rfl) spec_l1Once_de ((spec_l1Once_tie n c0 n1).trans h)
noncomputable def spec_l17Meet_code : Code := match Try.f169.body with | some c => c | none => .skip
def spec_l17Meet_ann : Ann := fun id => none
def spec_l17Meet_Ls (n : Nat) : Nat → Option (LSpec T) := fun id => none
theorem spec_l17Meet_tie (n : Nat) (a0 : SCall) (b1 : SCall) : evF (T := T) (Phi n 5) (spec_l17Meet_Ls n) spec_l17Meet_ann n Try.f169 (sg 169) [vA T 55 a0, vA T 55 b1] spec_l17Meet_dec = spec_l17Meet n a0 b1 := by kernel_rfl
theorem spec_l17Meet_lo (n : Nat) : LoopsOk (T := T) (Phi n 5) (spec_l17Meet_Ls n) spec_l17Meet_ann n spec_l17Meet_code := loopsOk_all (cs := []) (by kernel_rfl) trivial
theorem spec_l17Meet_ok (n : Nat) : EntOk Try.prog (ents n) (spec_l17Meet_ent n) := by
  intro hs ar y hg h
  replace h : spec_l17Meet_D n ar = some y := h
  unfold spec_l17Meet_D at h
  replace h := ocons_some h
  obtain ⟨a0, r0, rfl, h⟩ := h
  replace h := ocons_some h
  obtain ⟨a1, r1, rfl, h⟩ := h
  replace h := onil_some h
  obtain ⟨rfl, h⟩ := h
  obtain ⟨a0, qh0, h⟩ := obind_some h
  obtain ⟨b1, qh1, h⟩ := obind_some h
  rw [argV_eq ok qh0, argV_eq ok qh1]
  exact call_of (phiE_nat _ _) hs ok mixed Try.func169 (c := spec_l17Meet_code) (by kernel_rfl) (spec_l17Meet_lo n) (by kernel_rfl) (by kernel_rfl) (by kernel_rfl) spec_l17Meet_de ((spec_l17Meet_tie n a0 b1).trans h)
noncomputable def spec_l1In_code : Code := match Try.f73.body with | some c => c | none => .skip
def spec_l1In_ann : Ann := fun id => none
def spec_l1In_Ls (n : Nat) : Nat → Option (LSpec T) := fun id => none
theorem spec_l1In_tie (n : Nat) (x0 : Int) (a1 : Int) (b2 : Int) : evF (T := T) (Phi n 6) (spec_l1In_Ls n) spec_l1In_ann n Try.f73 (sg 73) [vA T 3 x0, vA T 3 a1, vA T 3 b2] spec_l1In_dec = spec_l1In n x0 a1 b2 := by kernel_rfl
theorem spec_l1In_lo (n : Nat) : LoopsOk (T := T) (Phi n 6) (spec_l1In_Ls n) spec_l1In_ann n spec_l1In_code := loopsOk_all (cs := []) (by kernel_rfl) trivial
theorem spec_l1In_ok (n : Nat) : EntOk Try.prog (ents n) (spec_l1In_ent n) := by
  intro hs ar y hg h
  replace h : spec_l1In_D n ar = some y := h
  unfold spec_l1In_D at h
  replace h := ocons_some h
  obtain ⟨a0, r0, rfl, h⟩ := h
  replace h := ocons_some h
  obtain ⟨a1, r1, rfl, h⟩ := h
  replace h := ocons_some h
  obtain ⟨a2, r2, rfl, h⟩ := h
  replace h := onil_some h
  obtain ⟨rfl, h⟩ := h
  obtain ⟨x0, qh0, h⟩ := obind_some h
  obtain ⟨a1, qh1, h⟩ := obind_some h
  obtain ⟨b2, qh2, h⟩ := obind_some h
  rw [argV_eq ok qh0, argV_eq ok qh1, argV_eq ok qh2]
  exact call_of (phiE_nat _ _) hs ok mixed Try.func73 (c := spec_l1In_code) (by kernel_rfl) (spec_l1In_lo n) (by kernel_rfl) (by kernel_rfl) (by kernel_rfl) spec_l1In_de ((spec_l1In_tie n x0 a1 b2).trans h)
noncomputable def spec_l1Minute_code : Code := match Try.f163.body with | some c => c | none => .skip
def spec_l1Minute_ann : Ann := fun id => none
def spec_l1Minute_Ls (n : Nat) : Nat → Option (LSpec T) := fun id => none
theorem spec_l1Minute_tie (n : Nat) (x0 : Int) : evF (T := T) (Phi n 7) (spec_l1Minute_Ls n) spec_l1Minute_ann n Try.f163 (sg 163) [vA T 3 x0] spec_l1Minute_dec = spec_l1Minute n x0 := by kernel_rfl
theorem spec_l1Minute_lo (n : Nat) : LoopsOk (T := T) (Phi n 7) (spec_l1Minute_Ls n) spec_l1Minute_ann n spec_l1Minute_code := loopsOk_all (cs := []) (by kernel_rfl) trivial
theorem spec_l1Minute_ok (n : Nat) : EntOk Try.prog (ents n) (spec_l1Minute_ent n) := by
  intro hs ar y hg h
  replace h : spec_l1Minute_D n ar = some y := h
  unfold spec_l1Minute_D at h
  replace h := ocons_some h
  obtain ⟨a0, r0, rfl, h⟩ := h
  replace h := onil_some h
  obtain ⟨rfl, h⟩ := h
  obtain ⟨x0, qh0, h⟩ := obind_some h
  rw [argV_eq ok qh0]
  exact call_of (phiE_nat _ _) hs ok mixed Try.func163 (c := spec_l1Minute_code) (by kernel_rfl) (spec_l1Minute_lo n) (by kernel_rfl) (by kernel_rfl) (by kernel_rfl) spec_l1Minute_de ((spec_l1Minute_tie n x0).trans h)
noncomputable def spec_CallsOk_code : Code := match Try.f170.body with | some c => c | none => .skip
def spec_CallsOk_4_sv : List Sv := [.one (.int .i64), .one (.arr 55), .one (.int .i64)]
def spec_CallsOk_4_so : List So := []
def spec_CallsOk_4_emb (c : Int × List SCall) (x : Int) : EVs T spec_CallsOk_4_sv × EOs T spec_CallsOk_4_so := ((c.1, c.2, x, ()), ())
def spec_CallsOk_4_prj (y : EVs T spec_CallsOk_4_sv × EOs T spec_CallsOk_4_so) : (Int × List SCall) × Int := ((y.1.1, y.1.2.1), (y.1.2.2.1))
def spec_CallsOk_4_b (n : Nat) {R : Type} (K : Ex → Sm.St T → Option R) (c : Int × List SCall) (x : Int) (J : Int → Option R) : Option R :=
  spec_CallsOk_L4 n (K (.exit 0) (stOf (T := T) [] [] [] [] () ())) (fun (y0 : Bool) => K .ret (stOf (T := T) [4] [] [.one (.bool)] [] (y0, ()) ())) J c.1 c.2 x
def spec_CallsOk_4_sp (n : Nat) : LSpec T := mkSpec T ⟨[], [0, 1, 5], []⟩ spec_CallsOk_4_sv spec_CallsOk_4_so (Int × List SCall) (Int) spec_CallsOk_4_emb spec_CallsOk_4_prj (spec_CallsOk_4_b n)
noncomputable def spec_CallsOk_4_c : Code := ((loopCodes spec_CallsOk_code)[0]?).getD .skip
def spec_CallsOk_ann : Ann := fun id => bif Nat.beq id 3000004 then some ⟨[], [], []⟩ else bif Nat.beq id 2000004 then some ⟨[], [4], []⟩ else none
def spec_CallsOk_Ls (n : Nat) : Nat → Option (LSpec T) := fun id => bif Nat.beq id 4 then some (spec_CallsOk_4_sp n) else none
theorem spec_CallsOk_4_le (n : Nat) : LoopEq (T := T) (Phi n 8) (spec_CallsOk_Ls n) spec_CallsOk_ann n spec_CallsOk_4_c (spec_CallsOk_4_sp n) := ⟨mkSpec_dec (fun y => rfl), fun c x => by kernel_rfl, fun K J c x => by kernel_rfl⟩
theorem spec_CallsOk_tie (n : Nat) (long0 : Int) (calls1 : List SCall) : evF (T := T) (Phi n 8) (spec_CallsOk_Ls n) spec_CallsOk_ann n Try.f170 (sg 170) [vA T 3 long0, vA T 44 calls1] spec_CallsOk_dec = spec_CallsOk n long0 calls1 := by kernel_rfl
theorem spec_CallsOk_lo (n : Nat) : LoopsOk (T := T) (Phi n 8) (spec_CallsOk_Ls n) spec_CallsOk_ann n spec_CallsOk_code := loopsOk_all (cs := [spec_CallsOk_4_c]) (by kernel_rfl) ⟨⟨_, by kernel_rfl, spec_CallsOk_4_le n⟩, trivial⟩
theorem spec_CallsOk_ok (n : Nat) : EntOk Try.prog (ents n) (spec_CallsOk_ent n) := by
  intro hs ar y hg h
  replace h : spec_CallsOk_D n ar = some y := h
  unfold spec_CallsOk_D at h
  replace h := ocons_some h
  obtain ⟨a0, r0, rfl, h⟩ := h
  replace h := ocons_some h
  obtain ⟨a1, r1, rfl, h⟩ := h
  replace h := onil_some h
  obtain ⟨rfl, h⟩ := h
  obtain ⟨long0, qh0, h⟩ := obind_some h
  obtain ⟨calls1, qh1, h⟩ := obind_some h
  rw [argV_eq ok qh0, argV_eq ok qh1]
  exact call_of (phiE_nat _ _) hs ok mixed Try.func170 (c := spec_CallsOk_code) (by kernel_rfl) (spec_CallsOk_lo n) (by kernel_rfl) (by kernel_rfl) (by kernel_rfl) spec_CallsOk_de ((spec_CallsOk_tie n long0 calls1).trans h)
noncomputable def spec_Clear17_code : Code := match Try.f89.body with | some c => c | none => .skip
def spec_Clear17_2_sv : List Sv := [.one (.int .i64), .one (.arr 55), .one (.int .i64)]
def spec_Clear17_2_so : List So := []
def spec_Clear17_2_emb (c : Int × List SCall) (x : Int) : EVs T spec_Clear17_2_sv × EOs T spec_Clear17_2_so := ((c.1, c.2, x, ()), ())
def spec_Clear17_2_prj (y : EVs T spec_Clear17_2_sv × EOs T spec_Clear17_2_so) : (Int × List SCall) × Int := ((y.1.1, y.1.2.1), (y.1.2.2.1))
def spec_Clear17_2_b (n : Nat) {R : Type} (K : Ex → Sm.St T → Option R) (c : Int × List SCall) (x : Int) (J : Int → Option R) : Option R :=
  spec_Clear17_L2 n (K (.exit 0) (stOf (T := T) [0, 1] [] [.one (.int .i64), .one (.arr 55)] [] (c.1, c.2, ()) ())) (fun (y0 : Bool) => K .ret (stOf (T := T) [4] [] [.one (.bool)] [] (y0, ()) ())) J c.1 c.2 x
def spec_Clear17_2_sp (n : Nat) : LSpec T := mkSpec T ⟨[], [0, 1, 5], []⟩ spec_Clear17_2_sv spec_Clear17_2_so (Int × List SCall) (Int) spec_Clear17_2_emb spec_Clear17_2_prj (spec_Clear17_2_b n)
noncomputable def spec_Clear17_2_c : Code := ((loopCodes spec_Clear17_code)[0]?).getD .skip
def spec_Clear17_5_sv : List Sv := [.one (.int .i64), .one (.arr 55), .one (.int .i64), .one (.int .i64)]
def spec_Clear17_5_so : List So := []
def spec_Clear17_5_emb (c : Int × List SCall × Int) (x : Int) : EVs T spec_Clear17_5_sv × EOs T spec_Clear17_5_so := ((c.1, c.2.1, c.2.2, x, ()), ())
def spec_Clear17_5_prj (y : EVs T spec_Clear17_5_sv × EOs T spec_Clear17_5_so) : (Int × List SCall × Int) × Int := ((y.1.1, y.1.2.1, y.1.2.2.1), (y.1.2.2.2.1))
def spec_Clear17_5_b (n : Nat) {R : Type} (K : Ex → Sm.St T → Option R) (c : Int × List SCall × Int) (x : Int) (J : Int → Option R) : Option R :=
  spec_Clear17_L5 n (K (.exit 2) (stOf (T := T) [0, 1, 5] [] [.one (.int .i64), .one (.arr 55), .one (.int .i64)] [] (c.1, c.2.1, c.2.2, ()) ())) (fun (y0 : Bool) => K .ret (stOf (T := T) [4] [] [.one (.bool)] [] (y0, ()) ())) J c.1 c.2.1 c.2.2 x
def spec_Clear17_5_sp (n : Nat) : LSpec T := mkSpec T ⟨[], [0, 1, 5, 6], []⟩ spec_Clear17_5_sv spec_Clear17_5_so (Int × List SCall × Int) (Int) spec_Clear17_5_emb spec_Clear17_5_prj (spec_Clear17_5_b n)
noncomputable def spec_Clear17_5_c : Code := ((loopCodes spec_Clear17_code)[1]?).getD .skip
def spec_Clear17_ann : Ann := fun id => bif Nat.beq id 3000002 then some ⟨[], [0, 1], []⟩ else bif Nat.beq id 2000002 then some ⟨[], [4], []⟩ else bif Nat.beq id 5000005 then some ⟨[], [0, 1, 5], []⟩ else bif Nat.beq id 2000005 then some ⟨[], [4], []⟩ else none
def spec_Clear17_Ls (n : Nat) : Nat → Option (LSpec T) := fun id => bif Nat.beq id 2 then some (spec_Clear17_2_sp n) else bif Nat.beq id 5 then some (spec_Clear17_5_sp n) else none
theorem spec_Clear17_2_le (n : Nat) : LoopEq (T := T) (Phi n 9) (spec_Clear17_Ls n) spec_Clear17_ann n spec_Clear17_2_c (spec_Clear17_2_sp n) := ⟨mkSpec_dec (fun y => rfl), fun c x => by kernel_rfl, fun K J c x => by kernel_rfl⟩
theorem spec_Clear17_5_le (n : Nat) : LoopEq (T := T) (Phi n 9) (spec_Clear17_Ls n) spec_Clear17_ann n spec_Clear17_5_c (spec_Clear17_5_sp n) := ⟨mkSpec_dec (fun y => rfl), fun c x => by kernel_rfl, fun K J c x => by kernel_rfl⟩
theorem spec_Clear17_tie (n : Nat) (long0 : Int) (calls1 : List SCall) : evF (T := T) (Phi n 9) (spec_Clear17_Ls n) spec_Clear17_ann n Try.f89 (sg 89) [vA T 3 long0, vA T 44 calls1] spec_Clear17_dec = spec_Clear17 n long0 calls1 := by kernel_rfl
theorem spec_Clear17_lo (n : Nat) : LoopsOk (T := T) (Phi n 9) (spec_Clear17_Ls n) spec_Clear17_ann n spec_Clear17_code := loopsOk_all (cs := [spec_Clear17_2_c, spec_Clear17_5_c]) (by kernel_rfl) ⟨⟨_, by kernel_rfl, spec_Clear17_2_le n⟩, ⟨_, by kernel_rfl, spec_Clear17_5_le n⟩, trivial⟩
theorem spec_Clear17_ok (n : Nat) : EntOk Try.prog (ents n) (spec_Clear17_ent n) := by
  intro hs ar y hg h
  replace h : spec_Clear17_D n ar = some y := h
  unfold spec_Clear17_D at h
  replace h := ocons_some h
  obtain ⟨a0, r0, rfl, h⟩ := h
  replace h := ocons_some h
  obtain ⟨a1, r1, rfl, h⟩ := h
  replace h := onil_some h
  obtain ⟨rfl, h⟩ := h
  obtain ⟨long0, qh0, h⟩ := obind_some h
  obtain ⟨calls1, qh1, h⟩ := obind_some h
  rw [argV_eq ok qh0, argV_eq ok qh1]
  exact call_of (phiE_nat _ _) hs ok mixed Try.func89 (c := spec_Clear17_code) (by kernel_rfl) (spec_Clear17_lo n) (by kernel_rfl) (by kernel_rfl) (by kernel_rfl) spec_Clear17_de ((spec_Clear17_tie n long0 calls1).trans h)
noncomputable def spec_Berth_code : Code := match Try.f90.body with | some c => c | none => .skip
def spec_Berth_4_sv : List Sv := [.one (.int .i64), .one (.arr 55), .one (.int .i64), .one (.int .i64)]
def spec_Berth_4_so : List So := []
def spec_Berth_4_emb (c : Int × List SCall × Int) (x : Int) : EVs T spec_Berth_4_sv × EOs T spec_Berth_4_so := ((c.1, c.2.1, c.2.2, x, ()), ())
def spec_Berth_4_prj (y : EVs T spec_Berth_4_sv × EOs T spec_Berth_4_so) : (Int × List SCall × Int) × Int := ((y.1.1, y.1.2.1, y.1.2.2.1), (y.1.2.2.2.1))
def spec_Berth_4_b (n : Nat) {R : Type} (K : Ex → Sm.St T → Option R) (c : Int × List SCall × Int) (x : Int) (J : Int → Option R) : Option R :=
  spec_Berth_L4 n (K (.exit 0) (stOf (T := T) [] [] [] [] () ())) (fun (y0 : Int) (y1 : Bool) => K .ret (stOf (T := T) [6, 7] [] [.one (.int .i64), .one (.bool)] [] (y0, y1, ()) ())) J c.1 c.2.1 c.2.2 x
def spec_Berth_4_sp (n : Nat) : LSpec T := mkSpec T ⟨[], [0, 1, 2, 8], []⟩ spec_Berth_4_sv spec_Berth_4_so (Int × List SCall × Int) (Int) spec_Berth_4_emb spec_Berth_4_prj (spec_Berth_4_b n)
noncomputable def spec_Berth_4_c : Code := ((loopCodes spec_Berth_code)[0]?).getD .skip
def spec_Berth_9_sv : List Sv := [.one (.int .i64), .one (.arr 55), .one (.int .i64), .one (.int .i64), .one (.ptr 72 0 0), .one (.int .i64)]
def spec_Berth_9_so : List So := [.var [.int .i64, .int .i64, .int .i64, .int .i64, .int .i64]]
def spec_Berth_9_emb (c : Int × List SCall × Int × Int) (x : Int × SCall) : EVs T spec_Berth_9_sv × EOs T spec_Berth_9_so := ((c.1, c.2.1, c.2.2.1, c.2.2.2, (), x.1, ()), ((x.2.Id, x.2.Long, x.2.From, x.2.To, x.2.At, ()), ()))
def spec_Berth_9_prj (y : EVs T spec_Berth_9_sv × EOs T spec_Berth_9_so) : (Int × List SCall × Int × Int) × (Int × SCall) := ((y.1.1, y.1.2.1, y.1.2.2.1, y.1.2.2.2.1), (y.1.2.2.2.2.2.1, ((⟨y.2.1.1, y.2.1.2.1, y.2.1.2.2.1, y.2.1.2.2.2.1, y.2.1.2.2.2.2.1⟩ : SCall) : SCall)))
def spec_Berth_9_b (n : Nat) {R : Type} (K : Ex → Sm.St T → Option R) (c : Int × List SCall × Int × Int) (x : Int × SCall) (J : (Int × SCall) → Option R) : Option R :=
  spec_Berth_L9 n (K (.exit 2) (stOf (T := T) [0, 1, 2, 8] [] [.one (.int .i64), .one (.arr 55), .one (.int .i64), .one (.int .i64)] [] (c.1, c.2.1, c.2.2.1, c.2.2.2, ()) ())) (fun (y0 : Int) (y1 : Bool) => K .ret (stOf (T := T) [6, 7] [] [.one (.int .i64), .one (.bool)] [] (y0, y1, ()) ())) (fun z0 z1 => J (z0, z1)) c.1 c.2.1 c.2.2.1 c.2.2.2 x.1 x.2
def spec_Berth_9_sp (n : Nat) : LSpec T := mkSpec T ⟨[], [0, 1, 2, 8, 9, 10], [72]⟩ spec_Berth_9_sv spec_Berth_9_so (Int × List SCall × Int × Int) (Int × SCall) spec_Berth_9_emb spec_Berth_9_prj (spec_Berth_9_b n)
noncomputable def spec_Berth_9_c : Code := ((loopCodes spec_Berth_code)[1]?).getD .skip
def spec_Berth_14_sv : List Sv := [.one (.int .i64), .one (.arr 55), .one (.int .i64), .one (.int .i64), .one (.ptr 72 0 0), .one (.int .i64), .one (.bool), .one (.int .i64)]
def spec_Berth_14_so : List So := [.var [.int .i64, .int .i64, .int .i64, .int .i64, .int .i64]]
def spec_Berth_14_emb (c : Int × List SCall × Int × Int × Int × SCall) (x : Bool × Int) : EVs T spec_Berth_14_sv × EOs T spec_Berth_14_so := ((c.1, c.2.1, c.2.2.1, c.2.2.2.1, (), c.2.2.2.2.1, x.1, x.2, ()), ((c.2.2.2.2.2.Id, c.2.2.2.2.2.Long, c.2.2.2.2.2.From, c.2.2.2.2.2.To, c.2.2.2.2.2.At, ()), ()))
def spec_Berth_14_prj (y : EVs T spec_Berth_14_sv × EOs T spec_Berth_14_so) : (Int × List SCall × Int × Int × Int × SCall) × (Bool × Int) := ((y.1.1, y.1.2.1, y.1.2.2.1, y.1.2.2.2.1, y.1.2.2.2.2.2.1, ((⟨y.2.1.1, y.2.1.2.1, y.2.1.2.2.1, y.2.1.2.2.2.1, y.2.1.2.2.2.2.1⟩ : SCall) : SCall)), (y.1.2.2.2.2.2.2.1, y.1.2.2.2.2.2.2.2.1))
def spec_Berth_14_b (n : Nat) {R : Type} (K : Ex → Sm.St T → Option R) (c : Int × List SCall × Int × Int × Int × SCall) (x : Bool × Int) (J : (Bool × Int) → Option R) : Option R :=
  spec_Berth_L14 n (fun (y5 : Bool) => K (.exit 4) (stOf (T := T) [0, 1, 2, 8, 9, 10, 11] [72] [.one (.int .i64), .one (.arr 55), .one (.int .i64), .one (.int .i64), .one (.ptr 72 0 0), .one (.int .i64), .one (.bool)] [.var [.int .i64, .int .i64, .int .i64, .int .i64, .int .i64]] (c.1, c.2.1, c.2.2.1, c.2.2.2.1, (), c.2.2.2.2.1, y5, ()) ((c.2.2.2.2.2.Id, c.2.2.2.2.2.Long, c.2.2.2.2.2.From, c.2.2.2.2.2.To, c.2.2.2.2.2.At, ()), ()))) (fun z0 z1 => J (z0, z1)) c.1 c.2.1 c.2.2.1 c.2.2.2.1 c.2.2.2.2.1 x.1 x.2 c.2.2.2.2.2
def spec_Berth_14_sp (n : Nat) : LSpec T := mkSpec T ⟨[], [0, 1, 2, 8, 9, 10, 11, 12], [72]⟩ spec_Berth_14_sv spec_Berth_14_so (Int × List SCall × Int × Int × Int × SCall) (Bool × Int) spec_Berth_14_emb spec_Berth_14_prj (spec_Berth_14_b n)
noncomputable def spec_Berth_14_c : Code := ((loopCodes spec_Berth_code)[2]?).getD .skip
def spec_Berth_ann : Ann := fun id => bif Nat.beq id 3000004 then some ⟨[], [], []⟩ else bif Nat.beq id 2000004 then some ⟨[], [6, 7], []⟩ else bif Nat.beq id 5000009 then some ⟨[], [0, 1, 2, 8], []⟩ else bif Nat.beq id 2000009 then some ⟨[], [6, 7], []⟩ else bif Nat.beq id 7000014 then some ⟨[], [0, 1, 2, 8, 9, 10, 11], [72]⟩ else none
def spec_Berth_Ls (n : Nat) : Nat → Option (LSpec T) := fun id => bif Nat.beq id 4 then some (spec_Berth_4_sp n) else bif Nat.beq id 9 then some (spec_Berth_9_sp n) else bif Nat.beq id 14 then some (spec_Berth_14_sp n) else none
theorem spec_Berth_4_le (n : Nat) : LoopEq (T := T) (Phi n 10) (spec_Berth_Ls n) spec_Berth_ann n spec_Berth_4_c (spec_Berth_4_sp n) := ⟨mkSpec_dec (fun y => rfl), fun c x => by kernel_rfl, fun K J c x => by kernel_rfl⟩
theorem spec_Berth_9_le (n : Nat) : LoopEq (T := T) (Phi n 10) (spec_Berth_Ls n) spec_Berth_ann n spec_Berth_9_c (spec_Berth_9_sp n) := ⟨mkSpec_dec (fun y => rfl), fun c x => by kernel_rfl, fun K J c x => by kernel_rfl⟩
theorem spec_Berth_14_le (n : Nat) : LoopEq (T := T) (Phi n 10) (spec_Berth_Ls n) spec_Berth_ann n spec_Berth_14_c (spec_Berth_14_sp n) := ⟨mkSpec_dec (fun y => rfl), fun c x => by kernel_rfl, fun K J c x => by kernel_rfl⟩
theorem spec_Berth_tie (n : Nat) (long0 : Int) (calls1 : List SCall) (id2 : Int) : evF (T := T) (Phi n 10) (spec_Berth_Ls n) spec_Berth_ann n Try.f90 (sg 90) [vA T 3 long0, vA T 44 calls1, vA T 3 id2] spec_Berth_dec = spec_Berth n long0 calls1 id2 := by kernel_rfl
theorem spec_Berth_lo (n : Nat) : LoopsOk (T := T) (Phi n 10) (spec_Berth_Ls n) spec_Berth_ann n spec_Berth_code := loopsOk_all (cs := [spec_Berth_4_c, spec_Berth_9_c, spec_Berth_14_c]) (by kernel_rfl) ⟨⟨_, by kernel_rfl, spec_Berth_4_le n⟩, ⟨_, by kernel_rfl, spec_Berth_9_le n⟩, ⟨_, by kernel_rfl, spec_Berth_14_le n⟩, trivial⟩
theorem spec_Berth_ok (n : Nat) : EntOk Try.prog (ents n) (spec_Berth_ent n) := by
  intro hs ar y hg h
  replace h : spec_Berth_D n ar = some y := h
  unfold spec_Berth_D at h
  replace h := ocons_some h
  obtain ⟨a0, r0, rfl, h⟩ := h
  replace h := ocons_some h
  obtain ⟨a1, r1, rfl, h⟩ := h
  replace h := ocons_some h
  obtain ⟨a2, r2, rfl, h⟩ := h
  replace h := onil_some h
  obtain ⟨rfl, h⟩ := h
  obtain ⟨long0, qh0, h⟩ := obind_some h
  obtain ⟨calls1, qh1, h⟩ := obind_some h
  obtain ⟨id2, qh2, h⟩ := obind_some h
  rw [argV_eq ok qh0, argV_eq ok qh1, argV_eq ok qh2]
  exact call_of (phiE_nat _ _) hs ok mixed Try.func90 (c := spec_Berth_code) (by kernel_rfl) (spec_Berth_lo n) (by kernel_rfl) (by kernel_rfl) (by kernel_rfl) spec_Berth_de ((spec_Berth_tie n long0 calls1 id2).trans h)
noncomputable def spec_l17DrawCalls_code : Code := match Try.f96.body with | some c => c | none => .skip
def spec_l17DrawCalls_5_sv : List Sv := [.one (.ptr 4503599627370496 0 0), .one (.bool), .one (.int .i64), .one (.own 3000000 55 false), .one (.int .i64), .one (.int .i64)]
def spec_l17DrawCalls_5_so : List So := [.var [.arr 5, .int .i64, .int .i64], .arr 55 false]
def spec_l17DrawCalls_5_emb (c : Bool × Int) (x : Int × Int × Sl1Cur × List SCall) : EVs T spec_l17DrawCalls_5_sv × EOs T spec_l17DrawCalls_5_so := (((), c.1, c.2, (), x.1, x.2.1, ()), ((x.2.2.1.b, x.2.2.1.i, x.2.2.1.h, ()), x.2.2.2, ()))
def spec_l17DrawCalls_5_prj (y : EVs T spec_l17DrawCalls_5_sv × EOs T spec_l17DrawCalls_5_so) : (Bool × Int) × (Int × Int × Sl1Cur × List SCall) := ((y.1.2.1, y.1.2.2.1), (y.1.2.2.2.2.1, y.1.2.2.2.2.2.1, ((⟨y.2.1.1, y.2.1.2.1, y.2.1.2.2.1⟩ : Sl1Cur) : Sl1Cur), y.2.2.1))
def spec_l17DrawCalls_5_b (n : Nat) {R : Type} (K : Ex → Sm.St T → Option R) (c : Bool × Int) (x : Int × Int × Sl1Cur × List SCall) (J : (Int × Int × Sl1Cur × List SCall) → Option R) : Option R :=
  spec_l17DrawCalls_L5 n (fun (y1 : List SCall) (y2 : Sl1Cur) => K (.exit 0) (stOf (T := T) [6, 7] [3000000, 4503599627370496] [.one (.int .i64), .one (.own 3000000 55 false)] [.arr 55 false, .var [.arr 5, .int .i64, .int .i64]] (c.2, (), ()) (y1, (y2.b, y2.i, y2.h, ()), ()))) (fun z0 z1 z2 z3 => J (z0, z1, z2, z3)) c.1 c.2 x.1 x.2.1 x.2.2.1 x.2.2.2
def spec_l17DrawCalls_5_sp (n : Nat) : LSpec T := mkSpec T ⟨[((.reg 7), 3000000, 55)], [0, 1, 6, 7, 8, 9], [4503599627370496, 3000000]⟩ spec_l17DrawCalls_5_sv spec_l17DrawCalls_5_so (Bool × Int) (Int × Int × Sl1Cur × List SCall) spec_l17DrawCalls_5_emb spec_l17DrawCalls_5_prj (spec_l17DrawCalls_5_b n)
noncomputable def spec_l17DrawCalls_5_c : Code := ((loopCodes spec_l17DrawCalls_code)[0]?).getD .skip
def spec_l17DrawCalls_ann : Ann := fun id => bif Nat.beq id 3000005 then some ⟨[((.reg 7), 3000000, 55)], [6, 7], [3000000, 4503599627370496]⟩ else none
def spec_l17DrawCalls_Ls (n : Nat) : Nat → Option (LSpec T) := fun id => bif Nat.beq id 5 then some (spec_l17DrawCalls_5_sp n) else none
theorem spec_l17DrawCalls_5_le (n : Nat) : LoopEq (T := T) (Phi n 11) (spec_l17DrawCalls_Ls n) spec_l17DrawCalls_ann n spec_l17DrawCalls_5_c (spec_l17DrawCalls_5_sp n) := ⟨mkSpec_dec (fun y => rfl), fun c x => by kernel_rfl, fun K J c x => by kernel_rfl⟩
theorem spec_l17DrawCalls_tie (n : Nat) (c0 : Sl1Cur) (placed1 : Bool) : evF (T := T) (Phi n 11) (spec_l17DrawCalls_Ls n) spec_l17DrawCalls_ann n Try.f96 (sg 96) [.ptr 184 c0, vA T 4 placed1] spec_l17DrawCalls_dec = spec_l17DrawCalls n c0 placed1 := by kernel_rfl
theorem spec_l17DrawCalls_lo (n : Nat) : LoopsOk (T := T) (Phi n 11) (spec_l17DrawCalls_Ls n) spec_l17DrawCalls_ann n spec_l17DrawCalls_code := loopsOk_all (cs := [spec_l17DrawCalls_5_c]) (by kernel_rfl) ⟨⟨_, by kernel_rfl, spec_l17DrawCalls_5_le n⟩, trivial⟩
theorem spec_l17DrawCalls_ok (n : Nat) : EntOk Try.prog (ents n) (spec_l17DrawCalls_ent n) := by
  intro hs ar y hg h
  replace h : spec_l17DrawCalls_D n ar = some y := h
  unfold spec_l17DrawCalls_D at h
  replace h := ocons_some h
  obtain ⟨a0, r0, rfl, h⟩ := h
  replace h := ocons_some h
  obtain ⟨a1, r1, rfl, h⟩ := h
  replace h := onil_some h
  obtain ⟨rfl, h⟩ := h
  obtain ⟨c0, qh0, h⟩ := obind_some h
  obtain ⟨placed1, qh1, h⟩ := obind_some h
  rw [argP_eq qh0, argV_eq ok qh1]
  exact call_of (phiE_nat _ _) hs ok mixed Try.func96 (c := spec_l17DrawCalls_code) (by kernel_rfl) (spec_l17DrawCalls_lo n) (by kernel_rfl) (by kernel_rfl) (by kernel_rfl) spec_l17DrawCalls_de ((spec_l17DrawCalls_tie n c0 placed1).trans h)
noncomputable def spec_DrawQuay_code : Code := match Try.f33.body with | some c => c | none => .skip
def spec_DrawQuay_ann : Ann := fun id => none
def spec_DrawQuay_Ls (n : Nat) : Nat → Option (LSpec T) := fun id => none
theorem spec_DrawQuay_tie (n : Nat) (code0 : List Int) : evF (T := T) (Phi n 12) (spec_DrawQuay_Ls n) spec_DrawQuay_ann n Try.f33 (sg 33) [vA T 34 code0] spec_DrawQuay_dec = spec_DrawQuay n code0 := by kernel_rfl
theorem spec_DrawQuay_lo (n : Nat) : LoopsOk (T := T) (Phi n 12) (spec_DrawQuay_Ls n) spec_DrawQuay_ann n spec_DrawQuay_code := loopsOk_all (cs := []) (by kernel_rfl) trivial
theorem spec_DrawQuay_ok (n : Nat) : EntOk Try.prog (ents n) (spec_DrawQuay_ent n) := by
  intro hs ar y hg h
  replace h : spec_DrawQuay_D n ar = some y := h
  unfold spec_DrawQuay_D at h
  replace h := ocons_some h
  obtain ⟨a0, r0, rfl, h⟩ := h
  replace h := onil_some h
  obtain ⟨rfl, h⟩ := h
  obtain ⟨code0, qh0, h⟩ := obind_some h
  rw [argV_eq ok qh0]
  exact call_of (phiE_nat _ _) hs ok mixed Try.func33 (c := spec_DrawQuay_code) (by kernel_rfl) (spec_DrawQuay_lo n) (by kernel_rfl) (by kernel_rfl) (by kernel_rfl) spec_DrawQuay_de ((spec_DrawQuay_tie n code0).trans h)
noncomputable def impl_in_code : Code := match Try.f87.body with | some c => c | none => .skip
def impl_in_ann : Ann := fun id => none
def impl_in_Ls (n : Nat) : Nat → Option (LSpec T) := fun id => none
theorem impl_in_tie (n : Nat) (n0 : Int) (least1 : Int) (most2 : Int) : evF (T := T) (Phi n 13) (impl_in_Ls n) impl_in_ann n Try.f87 (sg 87) [vA T 3 n0, vA T 3 least1, vA T 3 most2] impl_in_dec = impl_in n n0 least1 most2 := by kernel_rfl
theorem impl_in_lo (n : Nat) : LoopsOk (T := T) (Phi n 13) (impl_in_Ls n) impl_in_ann n impl_in_code := loopsOk_all (cs := []) (by kernel_rfl) trivial
theorem impl_in_ok (n : Nat) : EntOk Try.prog (ents n) (impl_in_ent n) := by
  intro hs ar y hg h
  replace h : impl_in_D n ar = some y := h
  unfold impl_in_D at h
  replace h := ocons_some h
  obtain ⟨a0, r0, rfl, h⟩ := h
  replace h := ocons_some h
  obtain ⟨a1, r1, rfl, h⟩ := h
  replace h := ocons_some h
  obtain ⟨a2, r2, rfl, h⟩ := h
  replace h := onil_some h
  obtain ⟨rfl, h⟩ := h
  obtain ⟨n0, qh0, h⟩ := obind_some h
  obtain ⟨least1, qh1, h⟩ := obind_some h
  obtain ⟨most2, qh2, h⟩ := obind_some h
  rw [argV_eq ok qh0, argV_eq ok qh1, argV_eq ok qh2]
  exact call_of (phiE_nat _ _) hs ok mixed Try.func87 (c := impl_in_code) (by kernel_rfl) (impl_in_lo n) (by kernel_rfl) (by kernel_rfl) (by kernel_rfl) impl_in_de ((impl_in_tie n n0 least1 most2).trans h)
noncomputable def impl_idRight_code : Code := match Try.f118.body with | some c => c | none => .skip
def impl_idRight_ann : Ann := fun id => none
def impl_idRight_Ls (n : Nat) : Nat → Option (LSpec T) := fun id => none
theorem impl_idRight_tie (n : Nat) (n0 : Int) : evF (T := T) (Phi n 14) (impl_idRight_Ls n) impl_idRight_ann n Try.f118 (sg 118) [vA T 3 n0] impl_idRight_dec = impl_idRight n n0 := by kernel_rfl
theorem impl_idRight_lo (n : Nat) : LoopsOk (T := T) (Phi n 14) (impl_idRight_Ls n) impl_idRight_ann n impl_idRight_code := loopsOk_all (cs := []) (by kernel_rfl) trivial
theorem impl_idRight_ok (n : Nat) : EntOk Try.prog (ents n) (impl_idRight_ent n) := by
  intro hs ar y hg h
  replace h : impl_idRight_D n ar = some y := h
  unfold impl_idRight_D at h
  replace h := ocons_some h
  obtain ⟨a0, r0, rfl, h⟩ := h
  replace h := onil_some h
  obtain ⟨rfl, h⟩ := h
  obtain ⟨n0, qh0, h⟩ := obind_some h
  rw [argV_eq ok qh0]
  exact call_of (phiE_nat _ _) hs ok mixed Try.func118 (c := impl_idRight_code) (by kernel_rfl) (impl_idRight_lo n) (by kernel_rfl) (by kernel_rfl) (by kernel_rfl) impl_idRight_de ((impl_idRight_tie n n0).trans h)
noncomputable def impl_minuteOk_code : Code := match Try.f88.body with | some c => c | none => .skip
def impl_minuteOk_ann : Ann := fun id => none
def impl_minuteOk_Ls (n : Nat) : Nat → Option (LSpec T) := fun id => none
theorem impl_minuteOk_tie (n : Nat) (n0 : Int) : evF (T := T) (Phi n 15) (impl_minuteOk_Ls n) impl_minuteOk_ann n Try.f88 (sg 88) [vA T 3 n0] impl_minuteOk_dec = impl_minuteOk n n0 := by kernel_rfl
theorem impl_minuteOk_lo (n : Nat) : LoopsOk (T := T) (Phi n 15) (impl_minuteOk_Ls n) impl_minuteOk_ann n impl_minuteOk_code := loopsOk_all (cs := []) (by kernel_rfl) trivial
theorem impl_minuteOk_ok (n : Nat) : EntOk Try.prog (ents n) (impl_minuteOk_ent n) := by
  intro hs ar y hg h
  replace h : impl_minuteOk_D n ar = some y := h
  unfold impl_minuteOk_D at h
  replace h := ocons_some h
  obtain ⟨a0, r0, rfl, h⟩ := h
  replace h := onil_some h
  obtain ⟨rfl, h⟩ := h
  obtain ⟨n0, qh0, h⟩ := obind_some h
  rw [argV_eq ok qh0]
  exact call_of (phiE_nat _ _) hs ok mixed Try.func88 (c := impl_minuteOk_code) (by kernel_rfl) (impl_minuteOk_lo n) (by kernel_rfl) (by kernel_rfl) (by kernel_rfl) impl_minuteOk_de ((impl_minuteOk_tie n n0).trans h)
noncomputable def impl_callOk_code : Code := match Try.f97.body with | some c => c | none => .skip
def impl_callOk_ann : Ann := fun id => none
def impl_callOk_Ls (n : Nat) : Nat → Option (LSpec T) := fun id => none
theorem impl_callOk_tie (n : Nat) (long0 : Int) (c1 : SCall) : evF (T := T) (Phi n 16) (impl_callOk_Ls n) impl_callOk_ann n Try.f97 (sg 97) [vA T 3 long0, vA T 55 c1] impl_callOk_dec = impl_callOk n long0 c1 := by kernel_rfl
theorem impl_callOk_lo (n : Nat) : LoopsOk (T := T) (Phi n 16) (impl_callOk_Ls n) impl_callOk_ann n impl_callOk_code := loopsOk_all (cs := []) (by kernel_rfl) trivial
theorem impl_callOk_ok (n : Nat) : EntOk Try.prog (ents n) (impl_callOk_ent n) := by
  intro hs ar y hg h
  replace h : impl_callOk_D n ar = some y := h
  unfold impl_callOk_D at h
  replace h := ocons_some h
  obtain ⟨a0, r0, rfl, h⟩ := h
  replace h := ocons_some h
  obtain ⟨a1, r1, rfl, h⟩ := h
  replace h := onil_some h
  obtain ⟨rfl, h⟩ := h
  obtain ⟨long0, qh0, h⟩ := obind_some h
  obtain ⟨c1, qh1, h⟩ := obind_some h
  rw [argV_eq ok qh0, argV_eq ok qh1]
  exact call_of (phiE_nat _ _) hs ok mixed Try.func97 (c := impl_callOk_code) (by kernel_rfl) (impl_callOk_lo n) (by kernel_rfl) (by kernel_rfl) (by kernel_rfl) impl_callOk_de ((impl_callOk_tie n long0 c1).trans h)
noncomputable def impl_CallsOk_code : Code := match Try.f34.body with | some c => c | none => .skip
def impl_CallsOk_4_sv : List Sv := [.one (.int .i64), .one (.arr 55), .one (.arr 55), .one (.int .i64), .one (.int .i64)]
def impl_CallsOk_4_so : List So := []
def impl_CallsOk_4_emb (c : Int × List SCall × List SCall × Int) (x : Int) : EVs T impl_CallsOk_4_sv × EOs T impl_CallsOk_4_so := ((c.1, c.2.1, c.2.2.1, c.2.2.2, x, ()), ())
def impl_CallsOk_4_prj (y : EVs T impl_CallsOk_4_sv × EOs T impl_CallsOk_4_so) : (Int × List SCall × List SCall × Int) × Int := ((y.1.1, y.1.2.1, y.1.2.2.1, y.1.2.2.2.1), (y.1.2.2.2.2.1))
def impl_CallsOk_4_b (n : Nat) {R : Type} (K : Ex → Sm.St T → Option R) (c : Int × List SCall × List SCall × Int) (x : Int) (J : Int → Option R) : Option R :=
  impl_CallsOk_L4 n (K (.exit 0) (stOf (T := T) [] [] [] [] () ())) (fun (y0 : Bool) => K .ret (stOf (T := T) [4] [] [.one (.bool)] [] (y0, ()) ())) J c.1 c.2.1 c.2.2.1 c.2.2.2 x
def impl_CallsOk_4_sp (n : Nat) : LSpec T := mkSpec T ⟨[], [0, 1, 15, 16, 17], []⟩ impl_CallsOk_4_sv impl_CallsOk_4_so (Int × List SCall × List SCall × Int) (Int) impl_CallsOk_4_emb impl_CallsOk_4_prj (impl_CallsOk_4_b n)
noncomputable def impl_CallsOk_4_c : Code := ((loopCodes impl_CallsOk_code)[0]?).getD .skip
def impl_CallsOk_ann : Ann := fun id => bif Nat.beq id 3000004 then some ⟨[], [], []⟩ else bif Nat.beq id 2000004 then some ⟨[], [4], []⟩ else none
def impl_CallsOk_Ls (n : Nat) : Nat → Option (LSpec T) := fun id => bif Nat.beq id 4 then some (impl_CallsOk_4_sp n) else none
theorem impl_CallsOk_4_le (n : Nat) : LoopEq (T := T) (Phi n 17) (impl_CallsOk_Ls n) impl_CallsOk_ann n impl_CallsOk_4_c (impl_CallsOk_4_sp n) := ⟨mkSpec_dec (fun y => rfl), fun c x => by kernel_rfl, fun K J c x => by kernel_rfl⟩
theorem impl_CallsOk_tie (n : Nat) (long0 : Int) (calls1 : List SCall) : evF (T := T) (Phi n 17) (impl_CallsOk_Ls n) impl_CallsOk_ann n Try.f34 (sg 34) [vA T 3 long0, vA T 44 calls1] impl_CallsOk_dec = impl_CallsOk n long0 calls1 := by kernel_rfl
theorem impl_CallsOk_lo (n : Nat) : LoopsOk (T := T) (Phi n 17) (impl_CallsOk_Ls n) impl_CallsOk_ann n impl_CallsOk_code := loopsOk_all (cs := [impl_CallsOk_4_c]) (by kernel_rfl) ⟨⟨_, by kernel_rfl, impl_CallsOk_4_le n⟩, trivial⟩
theorem impl_CallsOk_ok (n : Nat) : EntOk Try.prog (ents n) (impl_CallsOk_ent n) := by
  intro hs ar y hg h
  replace h : impl_CallsOk_D n ar = some y := h
  unfold impl_CallsOk_D at h
  replace h := ocons_some h
  obtain ⟨a0, r0, rfl, h⟩ := h
  replace h := ocons_some h
  obtain ⟨a1, r1, rfl, h⟩ := h
  replace h := onil_some h
  obtain ⟨rfl, h⟩ := h
  obtain ⟨long0, qh0, h⟩ := obind_some h
  obtain ⟨calls1, qh1, h⟩ := obind_some h
  rw [argV_eq ok qh0, argV_eq ok qh1]
  exact call_of (phiE_nat _ _) hs ok mixed Try.func34 (c := impl_CallsOk_code) (by kernel_rfl) (impl_CallsOk_lo n) (by kernel_rfl) (by kernel_rfl) (by kernel_rfl) impl_CallsOk_de ((impl_CallsOk_tie n long0 calls1).trans h)
noncomputable def impl_shares_code : Code := match Try.f100.body with | some c => c | none => .skip
def impl_shares_ann : Ann := fun id => none
def impl_shares_Ls (n : Nat) : Nat → Option (LSpec T) := fun id => none
theorem impl_shares_tie (n : Nat) (a0 : SCall) (b1 : SCall) : evF (T := T) (Phi n 18) (impl_shares_Ls n) impl_shares_ann n Try.f100 (sg 100) [vA T 55 a0, vA T 55 b1] impl_shares_dec = impl_shares n a0 b1 := by kernel_rfl
theorem impl_shares_lo (n : Nat) : LoopsOk (T := T) (Phi n 18) (impl_shares_Ls n) impl_shares_ann n impl_shares_code := loopsOk_all (cs := []) (by kernel_rfl) trivial
theorem impl_shares_ok (n : Nat) : EntOk Try.prog (ents n) (impl_shares_ent n) := by
  intro hs ar y hg h
  replace h : impl_shares_D n ar = some y := h
  unfold impl_shares_D at h
  replace h := ocons_some h
  obtain ⟨a0, r0, rfl, h⟩ := h
  replace h := ocons_some h
  obtain ⟨a1, r1, rfl, h⟩ := h
  replace h := onil_some h
  obtain ⟨rfl, h⟩ := h
  obtain ⟨a0, qh0, h⟩ := obind_some h
  obtain ⟨b1, qh1, h⟩ := obind_some h
  rw [argV_eq ok qh0, argV_eq ok qh1]
  exact call_of (phiE_nat _ _) hs ok mixed Try.func100 (c := impl_shares_code) (by kernel_rfl) (impl_shares_lo n) (by kernel_rfl) (by kernel_rfl) (by kernel_rfl) impl_shares_de ((impl_shares_tie n a0 b1).trans h)
noncomputable def impl_Clear17_1_code : Code := match Try.f99.body with | some c => c | none => .skip
def impl_Clear17_1_ann : Ann := fun id => none
def impl_Clear17_1_Ls (n : Nat) : Nat → Option (LSpec T) := fun id => none
theorem impl_Clear17_1_tie (n : Nat) (x0 : SCall) (a1 : SCall) : evF (T := T) (Phi n 19) (impl_Clear17_1_Ls n) impl_Clear17_1_ann n Try.f99 (sg 99) [vA T 55 x0, .ptr 55 a1] impl_Clear17_1_dec = impl_Clear17_1 n x0 a1 := by kernel_rfl
theorem impl_Clear17_1_lo (n : Nat) : LoopsOk (T := T) (Phi n 19) (impl_Clear17_1_Ls n) impl_Clear17_1_ann n impl_Clear17_1_code := loopsOk_all (cs := []) (by kernel_rfl) trivial
theorem impl_Clear17_1_ok (n : Nat) : EntOk Try.prog (ents n) (impl_Clear17_1_ent n) := by
  intro hs ar y hg h
  replace h : impl_Clear17_1_D n ar = some y := h
  unfold impl_Clear17_1_D at h
  replace h := ocons_some h
  obtain ⟨a0, r0, rfl, h⟩ := h
  replace h := ocons_some h
  obtain ⟨a1, r1, rfl, h⟩ := h
  replace h := onil_some h
  obtain ⟨rfl, h⟩ := h
  obtain ⟨x0, qh0, h⟩ := obind_some h
  obtain ⟨a1, qh1, h⟩ := obind_some h
  rw [argV_eq ok qh0, argP_eq qh1]
  exact call_of (phiE_nat _ _) hs ok mixed Try.func99 (c := impl_Clear17_1_code) (by kernel_rfl) (impl_Clear17_1_lo n) (by kernel_rfl) (by kernel_rfl) (by kernel_rfl) impl_Clear17_1_de ((impl_Clear17_1_tie n x0 a1).trans h)
noncomputable def slices_IndexFunc_impl_Call_impl_Call__impl_Clear17_1_code : Code := match Try.f101.body with | some c => c | none => .skip
def slices_IndexFunc_impl_Call_impl_Call__impl_Clear17_1_2_sv : List Sv := [.one (.arr 55), .one (.fnr 99 [55]), .one (.int .i64), .one (.int .i64)]
def slices_IndexFunc_impl_Call_impl_Call__impl_Clear17_1_2_so : List So := []
def slices_IndexFunc_impl_Call_impl_Call__impl_Clear17_1_2_emb (c : List SCall × SCall × Int) (x : Int) : EVs T slices_IndexFunc_impl_Call_impl_Call__impl_Clear17_1_2_sv × EOs T slices_IndexFunc_impl_Call_impl_Call__impl_Clear17_1_2_so := ((c.1, (c.2.1, ()), c.2.2, x, ()), ())
def slices_IndexFunc_impl_Call_impl_Call__impl_Clear17_1_2_prj (y : EVs T slices_IndexFunc_impl_Call_impl_Call__impl_Clear17_1_2_sv × EOs T slices_IndexFunc_impl_Call_impl_Call__impl_Clear17_1_2_so) : (List SCall × SCall × Int) × Int := ((y.1.1, y.1.2.1.1, y.1.2.2.1), (y.1.2.2.2.1))
def slices_IndexFunc_impl_Call_impl_Call__impl_Clear17_1_2_b (n : Nat) {R : Type} (K : Ex → Sm.St T → Option R) (c : List SCall × SCall × Int) (x : Int) (J : Int → Option R) : Option R :=
  slices_IndexFunc_impl_Call_impl_Call__impl_Clear17_1_L2 n (K (.exit 0) (stOf (T := T) [] [] [] [] () ())) (fun (y0 : Int) => K .ret (stOf (T := T) [4] [] [.one (.int .i64)] [] (y0, ()) ())) J c.1 c.2.1 c.2.2 x
def slices_IndexFunc_impl_Call_impl_Call__impl_Clear17_1_2_sp (n : Nat) : LSpec T := mkSpec T ⟨[], [0, 1, 7, 8], []⟩ slices_IndexFunc_impl_Call_impl_Call__impl_Clear17_1_2_sv slices_IndexFunc_impl_Call_impl_Call__impl_Clear17_1_2_so (List SCall × SCall × Int) (Int) slices_IndexFunc_impl_Call_impl_Call__impl_Clear17_1_2_emb slices_IndexFunc_impl_Call_impl_Call__impl_Clear17_1_2_prj (slices_IndexFunc_impl_Call_impl_Call__impl_Clear17_1_2_b n)
noncomputable def slices_IndexFunc_impl_Call_impl_Call__impl_Clear17_1_2_c : Code := ((loopCodes slices_IndexFunc_impl_Call_impl_Call__impl_Clear17_1_code)[0]?).getD .skip
def slices_IndexFunc_impl_Call_impl_Call__impl_Clear17_1_ann : Ann := fun id => bif Nat.beq id 3000002 then some ⟨[], [], []⟩ else bif Nat.beq id 2000002 then some ⟨[], [4], []⟩ else none
def slices_IndexFunc_impl_Call_impl_Call__impl_Clear17_1_Ls (n : Nat) : Nat → Option (LSpec T) := fun id => bif Nat.beq id 2 then some (slices_IndexFunc_impl_Call_impl_Call__impl_Clear17_1_2_sp n) else none
theorem slices_IndexFunc_impl_Call_impl_Call__impl_Clear17_1_2_le (n : Nat) : LoopEq (T := T) (Phi n 20) (slices_IndexFunc_impl_Call_impl_Call__impl_Clear17_1_Ls n) slices_IndexFunc_impl_Call_impl_Call__impl_Clear17_1_ann n slices_IndexFunc_impl_Call_impl_Call__impl_Clear17_1_2_c (slices_IndexFunc_impl_Call_impl_Call__impl_Clear17_1_2_sp n) := ⟨mkSpec_dec (fun y => rfl), fun c x => by kernel_rfl, fun K J c x => by kernel_rfl⟩
theorem slices_IndexFunc_impl_Call_impl_Call__impl_Clear17_1_tie (n : Nat) (s0 : List SCall) (f1c0 : SCall) : evF (T := T) (Phi n 20) (slices_IndexFunc_impl_Call_impl_Call__impl_Clear17_1_Ls n) slices_IndexFunc_impl_Call_impl_Call__impl_Clear17_1_ann n Try.f101 (sg 101) [vA T 44 s0, .fn 99 [.ptr 55 f1c0]] slices_IndexFunc_impl_Call_impl_Call__impl_Clear17_1_dec = slices_IndexFunc_impl_Call_impl_Call__impl_Clear17_1 n s0 f1c0 := by kernel_rfl
theorem slices_IndexFunc_impl_Call_impl_Call__impl_Clear17_1_lo (n : Nat) : LoopsOk (T := T) (Phi n 20) (slices_IndexFunc_impl_Call_impl_Call__impl_Clear17_1_Ls n) slices_IndexFunc_impl_Call_impl_Call__impl_Clear17_1_ann n slices_IndexFunc_impl_Call_impl_Call__impl_Clear17_1_code := loopsOk_all (cs := [slices_IndexFunc_impl_Call_impl_Call__impl_Clear17_1_2_c]) (by kernel_rfl) ⟨⟨_, by kernel_rfl, slices_IndexFunc_impl_Call_impl_Call__impl_Clear17_1_2_le n⟩, trivial⟩
theorem slices_IndexFunc_impl_Call_impl_Call__impl_Clear17_1_ok (n : Nat) : EntOk Try.prog (ents n) (slices_IndexFunc_impl_Call_impl_Call__impl_Clear17_1_ent n) := by
  intro hs ar y hg h
  replace h : slices_IndexFunc_impl_Call_impl_Call__impl_Clear17_1_D n ar = some y := h
  unfold slices_IndexFunc_impl_Call_impl_Call__impl_Clear17_1_D at h
  split at h
  · obtain ⟨s0, qh0, h⟩ := obind_some h
    obtain ⟨f1c0, qh1, h⟩ := obind_some h
    rw [argV_eq ok qh0, argP_eq qh1] at hg ⊢
    cases (show [_] = [99] from natsEq_eq hg)
    exact call_of (phiE_nat _ _) hs ok mixed Try.func101 (c := slices_IndexFunc_impl_Call_impl_Call__impl_Clear17_1_code) (by kernel_rfl) (slices_IndexFunc_impl_Call_impl_Call__impl_Clear17_1_lo n) (by kernel_rfl) (by kernel_rfl) (by kernel_rfl) slices_IndexFunc_impl_Call_impl_Call__impl_Clear17_1_de ((slices_IndexFunc_impl_Call_impl_Call__impl_Clear17_1_tie n s0 f1c0).trans h)
  · cases h
noncomputable def slices_ContainsFunc_impl_Call_impl_Call__impl_Clear17_1_code : Code := match Try.f98.body with | some c => c | none => .skip
def slices_ContainsFunc_impl_Call_impl_Call__impl_Clear17_1_ann : Ann := fun id => none
def slices_ContainsFunc_impl_Call_impl_Call__impl_Clear17_1_Ls (n : Nat) : Nat → Option (LSpec T) := fun id => none
theorem slices_ContainsFunc_impl_Call_impl_Call__impl_Clear17_1_tie (n : Nat) (s0 : List SCall) (f1c0 : SCall) : evF (T := T) (Phi n 21) (slices_ContainsFunc_impl_Call_impl_Call__impl_Clear17_1_Ls n) slices_ContainsFunc_impl_Call_impl_Call__impl_Clear17_1_ann n Try.f98 (sg 98) [vA T 44 s0, .fn 99 [.ptr 55 f1c0]] slices_ContainsFunc_impl_Call_impl_Call__impl_Clear17_1_dec = slices_ContainsFunc_impl_Call_impl_Call__impl_Clear17_1 n s0 f1c0 := by kernel_rfl
theorem slices_ContainsFunc_impl_Call_impl_Call__impl_Clear17_1_lo (n : Nat) : LoopsOk (T := T) (Phi n 21) (slices_ContainsFunc_impl_Call_impl_Call__impl_Clear17_1_Ls n) slices_ContainsFunc_impl_Call_impl_Call__impl_Clear17_1_ann n slices_ContainsFunc_impl_Call_impl_Call__impl_Clear17_1_code := loopsOk_all (cs := []) (by kernel_rfl) trivial
theorem slices_ContainsFunc_impl_Call_impl_Call__impl_Clear17_1_ok (n : Nat) : EntOk Try.prog (ents n) (slices_ContainsFunc_impl_Call_impl_Call__impl_Clear17_1_ent n) := by
  intro hs ar y hg h
  replace h : slices_ContainsFunc_impl_Call_impl_Call__impl_Clear17_1_D n ar = some y := h
  unfold slices_ContainsFunc_impl_Call_impl_Call__impl_Clear17_1_D at h
  split at h
  · obtain ⟨s0, qh0, h⟩ := obind_some h
    obtain ⟨f1c0, qh1, h⟩ := obind_some h
    rw [argV_eq ok qh0, argP_eq qh1] at hg ⊢
    cases (show [_] = [99] from natsEq_eq hg)
    exact call_of (phiE_nat _ _) hs ok mixed Try.func98 (c := slices_ContainsFunc_impl_Call_impl_Call__impl_Clear17_1_code) (by kernel_rfl) (slices_ContainsFunc_impl_Call_impl_Call__impl_Clear17_1_lo n) (by kernel_rfl) (by kernel_rfl) (by kernel_rfl) slices_ContainsFunc_impl_Call_impl_Call__impl_Clear17_1_de ((slices_ContainsFunc_impl_Call_impl_Call__impl_Clear17_1_tie n s0 f1c0).trans h)
  · cases h
noncomputable def impl_Clear17_code : Code := match Try.f35.body with | some c => c | none => .skip
def impl_Clear17_4_sv : List Sv := [.one (.arr 55), .one (.arr 55), .one (.int .i64), .one (.int .i64)]
def impl_Clear17_4_so : List So := []
def impl_Clear17_4_emb (c : List SCall × List SCall × Int) (x : Int) : EVs T impl_Clear17_4_sv × EOs T impl_Clear17_4_so := ((c.1, c.2.1, c.2.2, x, ()), ())
def impl_Clear17_4_prj (y : EVs T impl_Clear17_4_sv × EOs T impl_Clear17_4_so) : (List SCall × List SCall × Int) × Int := ((y.1.1, y.1.2.1, y.1.2.2.1), (y.1.2.2.2.1))
def impl_Clear17_4_b (n : Nat) {R : Type} (K : Ex → Sm.St T → Option R) (c : List SCall × List SCall × Int) (x : Int) (J : Int → Option R) : Option R :=
  impl_Clear17_L4 n (K (.exit 0) (stOf (T := T) [] [] [] [] () ())) (fun (y0 : Bool) => K .ret (stOf (T := T) [4] [] [.one (.bool)] [] (y0, ()) ())) J c.1 c.2.1 c.2.2 x
def impl_Clear17_4_sp (n : Nat) : LSpec T := mkSpec T ⟨[], [1, 11, 12, 13], []⟩ impl_Clear17_4_sv impl_Clear17_4_so (List SCall × List SCall × Int) (Int) impl_Clear17_4_emb impl_Clear17_4_prj (impl_Clear17_4_b n)
noncomputable def impl_Clear17_4_c : Code := ((loopCodes impl_Clear17_code)[0]?).getD .skip
def impl_Clear17_ann : Ann := fun id => bif Nat.beq id 3000004 then some ⟨[], [], []⟩ else bif Nat.beq id 2000004 then some ⟨[], [4], []⟩ else none
def impl_Clear17_Ls (n : Nat) : Nat → Option (LSpec T) := fun id => bif Nat.beq id 4 then some (impl_Clear17_4_sp n) else none
theorem impl_Clear17_4_le (n : Nat) : LoopEq (T := T) (Phi n 22) (impl_Clear17_Ls n) impl_Clear17_ann n impl_Clear17_4_c (impl_Clear17_4_sp n) := ⟨mkSpec_dec (fun y => rfl), fun c x => by kernel_rfl, fun K J c x => by kernel_rfl⟩
theorem impl_Clear17_tie (n : Nat) (long0 : Int) (calls1 : List SCall) : evF (T := T) (Phi n 22) (impl_Clear17_Ls n) impl_Clear17_ann n Try.f35 (sg 35) [vA T 3 long0, vA T 44 calls1] impl_Clear17_dec = impl_Clear17 n long0 calls1 := by kernel_rfl
theorem impl_Clear17_lo (n : Nat) : LoopsOk (T := T) (Phi n 22) (impl_Clear17_Ls n) impl_Clear17_ann n impl_Clear17_code := loopsOk_all (cs := [impl_Clear17_4_c]) (by kernel_rfl) ⟨⟨_, by kernel_rfl, impl_Clear17_4_le n⟩, trivial⟩
theorem impl_Clear17_ok (n : Nat) : EntOk Try.prog (ents n) (impl_Clear17_ent n) := by
  intro hs ar y hg h
  replace h : impl_Clear17_D n ar = some y := h
  unfold impl_Clear17_D at h
  replace h := ocons_some h
  obtain ⟨a0, r0, rfl, h⟩ := h
  replace h := ocons_some h
  obtain ⟨a1, r1, rfl, h⟩ := h
  replace h := onil_some h
  obtain ⟨rfl, h⟩ := h
  obtain ⟨long0, qh0, h⟩ := obind_some h
  obtain ⟨calls1, qh1, h⟩ := obind_some h
  rw [argV_eq ok qh0, argV_eq ok qh1]
  exact call_of (phiE_nat _ _) hs ok mixed Try.func35 (c := impl_Clear17_code) (by kernel_rfl) (impl_Clear17_lo n) (by kernel_rfl) (by kernel_rfl) (by kernel_rfl) impl_Clear17_de ((impl_Clear17_tie n long0 calls1).trans h)
noncomputable def impl_own_impl_Call_code : Code := match Try.f92.body with | some c => c | none => .skip
def impl_own_impl_Call_ann : Ann := fun id => none
def impl_own_impl_Call_Ls (n : Nat) : Nat → Option (LSpec T) := fun id => none
theorem impl_own_impl_Call_tie (n : Nat) (l0 : List SCall) : evF (T := T) (Phi n 23) (impl_own_impl_Call_Ls n) impl_own_impl_Call_ann n Try.f92 (sg 92) [vA T 44 l0] impl_own_impl_Call_dec = impl_own_impl_Call n l0 := by kernel_rfl
theorem impl_own_impl_Call_lo (n : Nat) : LoopsOk (T := T) (Phi n 23) (impl_own_impl_Call_Ls n) impl_own_impl_Call_ann n impl_own_impl_Call_code := loopsOk_all (cs := []) (by kernel_rfl) trivial
theorem impl_own_impl_Call_ok (n : Nat) : EntOk Try.prog (ents n) (impl_own_impl_Call_ent n) := by
  intro hs ar y hg h
  replace h : impl_own_impl_Call_D n ar = some y := h
  unfold impl_own_impl_Call_D at h
  replace h := ocons_some h
  obtain ⟨a0, r0, rfl, h⟩ := h
  replace h := onil_some h
  obtain ⟨rfl, h⟩ := h
  obtain ⟨l0, qh0, h⟩ := obind_some h
  rw [argV_eq ok qh0]
  exact call_of (phiE_nat _ _) hs ok mixed Try.func92 (c := impl_own_impl_Call_code) (by kernel_rfl) (impl_own_impl_Call_lo n) (by kernel_rfl) (by kernel_rfl) (by kernel_rfl) impl_own_impl_Call_de ((impl_own_impl_Call_tie n l0).trans h)
noncomputable def cmp_isNaN_int_code : Code := match Try.f168.body with | some c => c | none => .skip
def cmp_isNaN_int_ann : Ann := fun id => none
def cmp_isNaN_int_Ls (n : Nat) : Nat → Option (LSpec T) := fun id => none
theorem cmp_isNaN_int_tie (n : Nat) (x0 : Int) : evF (T := T) (Phi n 24) (cmp_isNaN_int_Ls n) cmp_isNaN_int_ann n Try.f168 (sg 168) [vA T 3 x0] cmp_isNaN_int_dec = cmp_isNaN_int n x0 := by kernel_rfl
theorem cmp_isNaN_int_lo (n : Nat) : LoopsOk (T := T) (Phi n 24) (cmp_isNaN_int_Ls n) cmp_isNaN_int_ann n cmp_isNaN_int_code := loopsOk_all (cs := []) (by kernel_rfl) trivial
theorem cmp_isNaN_int_ok (n : Nat) : EntOk Try.prog (ents n) (cmp_isNaN_int_ent n) := by
  intro hs ar y hg h
  replace h : cmp_isNaN_int_D n ar = some y := h
  unfold cmp_isNaN_int_D at h
  replace h := ocons_some h
  obtain ⟨a0, r0, rfl, h⟩ := h
  replace h := onil_some h
  obtain ⟨rfl, h⟩ := h
  obtain ⟨x0, qh0, h⟩ := obind_some h
  rw [argV_eq ok qh0]
  exact call_of (phiE_nat _ _) hs ok mixed Try.func168 (c := cmp_isNaN_int_code) (by kernel_rfl) (cmp_isNaN_int_lo n) (by kernel_rfl) (by kernel_rfl) (by kernel_rfl) cmp_isNaN_int_de ((cmp_isNaN_int_tie n x0).trans h)
noncomputable def cmp_Compare_int_code : Code := match Try.f86.body with | some c => c | none => .skip
def cmp_Compare_int_ann : Ann := fun id => none
def cmp_Compare_int_Ls (n : Nat) : Nat → Option (LSpec T) := fun id => none
theorem cmp_Compare_int_tie (n : Nat) (x0 : Int) (y1 : Int) : evF (T := T) (Phi n 25) (cmp_Compare_int_Ls n) cmp_Compare_int_ann n Try.f86 (sg 86) [vA T 3 x0, vA T 3 y1] cmp_Compare_int_dec = cmp_Compare_int n x0 y1 := by kernel_rfl
theorem cmp_Compare_int_lo (n : Nat) : LoopsOk (T := T) (Phi n 25) (cmp_Compare_int_Ls n) cmp_Compare_int_ann n cmp_Compare_int_code := loopsOk_all (cs := []) (by kernel_rfl) trivial
theorem cmp_Compare_int_ok (n : Nat) : EntOk Try.prog (ents n) (cmp_Compare_int_ent n) := by
  intro hs ar y hg h
  replace h : cmp_Compare_int_D n ar = some y := h
  unfold cmp_Compare_int_D at h
  replace h := ocons_some h
  obtain ⟨a0, r0, rfl, h⟩ := h
  replace h := ocons_some h
  obtain ⟨a1, r1, rfl, h⟩ := h
  replace h := onil_some h
  obtain ⟨rfl, h⟩ := h
  obtain ⟨x0, qh0, h⟩ := obind_some h
  obtain ⟨y1, qh1, h⟩ := obind_some h
  rw [argV_eq ok qh0, argV_eq ok qh1]
  exact call_of (phiE_nat _ _) hs ok mixed Try.func86 (c := cmp_Compare_int_code) (by kernel_rfl) (cmp_Compare_int_lo n) (by kernel_rfl) (by kernel_rfl) (by kernel_rfl) cmp_Compare_int_de ((cmp_Compare_int_tie n x0 y1).trans h)
noncomputable def impl_BerthAll_1_code : Code := match Try.f94.body with | some c => c | none => .skip
def impl_BerthAll_1_ann : Ann := fun id => none
def impl_BerthAll_1_Ls (n : Nat) : Nat → Option (LSpec T) := fun id => none
theorem impl_BerthAll_1_tie (n : Nat) (a0 : Int) (b1 : Int) (a2 : List SCall) : evF (T := T) (Phi n 26) (impl_BerthAll_1_Ls n) impl_BerthAll_1_ann n Try.f94 (sg 94) [vA T 3 a0, vA T 3 b1, .ptr 44 a2] impl_BerthAll_1_dec = impl_BerthAll_1 n a0 b1 a2 := by kernel_rfl
theorem impl_BerthAll_1_lo (n : Nat) : LoopsOk (T := T) (Phi n 26) (impl_BerthAll_1_Ls n) impl_BerthAll_1_ann n impl_BerthAll_1_code := loopsOk_all (cs := []) (by kernel_rfl) trivial
theorem impl_BerthAll_1_ok (n : Nat) : EntOk Try.prog (ents n) (impl_BerthAll_1_ent n) := by
  intro hs ar y hg h
  replace h : impl_BerthAll_1_D n ar = some y := h
  unfold impl_BerthAll_1_D at h
  replace h := ocons_some h
  obtain ⟨a0, r0, rfl, h⟩ := h
  replace h := ocons_some h
  obtain ⟨a1, r1, rfl, h⟩ := h
  replace h := ocons_some h
  obtain ⟨a2, r2, rfl, h⟩ := h
  replace h := onil_some h
  obtain ⟨rfl, h⟩ := h
  obtain ⟨a0, qh0, h⟩ := obind_some h
  obtain ⟨b1, qh1, h⟩ := obind_some h
  obtain ⟨a2, qh2, h⟩ := obind_some h
  rw [argV_eq ok qh0, argV_eq ok qh1, argP_eq qh2]
  exact call_of (phiE_nat _ _) hs ok mixed Try.func94 (c := impl_BerthAll_1_code) (by kernel_rfl) (impl_BerthAll_1_lo n) (by kernel_rfl) (by kernel_rfl) (by kernel_rfl) impl_BerthAll_1_de ((impl_BerthAll_1_tie n a0 b1 a2).trans h)
noncomputable def slices_insertionSortCmpFunc_int__impl_BerthAll_1_code : Code := match Try.f201.body with | some c => c | none => .skip
def slices_insertionSortCmpFunc_int__impl_BerthAll_1_1_sv : List Sv := [.one (.own 4503599627370496 3 false), .one (.int .i64), .one (.int .i64), .one (.fnr 94 [44]), .one (.int .i64)]
def slices_insertionSortCmpFunc_int__impl_BerthAll_1_1_so : List So := [.arr 3 true]
def slices_insertionSortCmpFunc_int__impl_BerthAll_1_1_emb (c : Int × Int × List SCall) (x : Int × List Int) : EVs T slices_insertionSortCmpFunc_int__impl_BerthAll_1_1_sv × EOs T slices_insertionSortCmpFunc_int__impl_BerthAll_1_1_so := (((), c.1, c.2.1, (c.2.2, ()), x.1, ()), (x.2, ()))
def slices_insertionSortCmpFunc_int__impl_BerthAll_1_1_prj (y : EVs T slices_insertionSortCmpFunc_int__impl_BerthAll_1_1_sv × EOs T slices_insertionSortCmpFunc_int__impl_BerthAll_1_1_so) : (Int × Int × List SCall) × (Int × List Int) := ((y.1.2.1, y.1.2.2.1, y.1.2.2.2.1.1), (y.1.2.2.2.2.1, y.2.1))
def slices_insertionSortCmpFunc_int__impl_BerthAll_1_1_b (n : Nat) {R : Type} (K : Ex → Sm.St T → Option R) (c : Int × Int × List SCall) (x : Int × List Int) (J : (Int × List Int) → Option R) : Option R :=
  slices_insertionSortCmpFunc_int__impl_BerthAll_1_L1 n (fun (y0 : List Int) => K (.exit 0) (stOf (T := T) [] [4503599627370496] [] [.arr 3 true] () (y0, ()))) (fun z0 z1 => J (z0, z1)) c.1 c.2.1 c.2.2 x.1 x.2
def slices_insertionSortCmpFunc_int__impl_BerthAll_1_1_sp (n : Nat) : LSpec T := mkSpec T ⟨[], [0, 1, 2, 3, 8], [4503599627370496]⟩ slices_insertionSortCmpFunc_int__impl_BerthAll_1_1_sv slices_insertionSortCmpFunc_int__impl_BerthAll_1_1_so (Int × Int × List SCall) (Int × List Int) slices_insertionSortCmpFunc_int__impl_BerthAll_1_1_emb slices_insertionSortCmpFunc_int__impl_BerthAll_1_1_prj (slices_insertionSortCmpFunc_int__impl_BerthAll_1_1_b n)
noncomputable def slices_insertionSortCmpFunc_int__impl_BerthAll_1_1_c : Code := ((loopCodes slices_insertionSortCmpFunc_int__impl_BerthAll_1_code)[0]?).getD .skip
def slices_insertionSortCmpFunc_int__impl_BerthAll_1_4_sv : List Sv := [.one (.own 4503599627370496 3 false), .one (.int .i64), .one (.int .i64), .one (.fnr 94 [44]), .one (.int .i64), .one (.int .i64)]
def slices_insertionSortCmpFunc_int__impl_BerthAll_1_4_so : List So := [.arr 3 true]
def slices_insertionSortCmpFunc_int__impl_BerthAll_1_4_emb (c : Int × Int × List SCall × Int) (x : Int × List Int) : EVs T slices_insertionSortCmpFunc_int__impl_BerthAll_1_4_sv × EOs T slices_insertionSortCmpFunc_int__impl_BerthAll_1_4_so := (((), c.1, c.2.1, (c.2.2.1, ()), c.2.2.2, x.1, ()), (x.2, ()))
def slices_insertionSortCmpFunc_int__impl_BerthAll_1_4_prj (y : EVs T slices_insertionSortCmpFunc_int__impl_BerthAll_1_4_sv × EOs T slices_insertionSortCmpFunc_int__impl_BerthAll_1_4_so) : (Int × Int × List SCall × Int) × (Int × List Int) := ((y.1.2.1, y.1.2.2.1, y.1.2.2.2.1.1, y.1.2.2.2.2.1), (y.1.2.2.2.2.2.1, y.2.1))
def slices_insertionSortCmpFunc_int__impl_BerthAll_1_4_b (n : Nat) {R : Type} (K : Ex → Sm.St T → Option R) (c : Int × Int × List SCall × Int) (x : Int × List Int) (J : (Int × List Int) → Option R) : Option R :=
  slices_insertionSortCmpFunc_int__impl_BerthAll_1_L4 n (fun (y4 : List Int) => K (.exit 2) (stOf (T := T) [0, 1, 2, 3, 8] [4503599627370496] [.one (.own 4503599627370496 3 false), .one (.int .i64), .one (.int .i64), .one (.fnr 94 [44]), .one (.int .i64)] [.arr 3 true] ((), c.1, c.2.1, (c.2.2.1, ()), c.2.2.2, ()) (y4, ()))) (fun z0 z1 => J (z0, z1)) c.1 c.2.1 c.2.2.1 c.2.2.2 x.1 x.2
def slices_insertionSortCmpFunc_int__impl_BerthAll_1_4_sp (n : Nat) : LSpec T := mkSpec T ⟨[], [0, 1, 2, 3, 8, 9], [4503599627370496]⟩ slices_insertionSortCmpFunc_int__impl_BerthAll_1_4_sv slices_insertionSortCmpFunc_int__impl_BerthAll_1_4_so (Int × Int × List SCall × Int) (Int × List Int) slices_insertionSortCmpFunc_int__impl_BerthAll_1_4_emb slices_insertionSortCmpFunc_int__impl_BerthAll_1_4_prj (slices_insertionSortCmpFunc_int__impl_BerthAll_1_4_b n)
noncomputable def slices_insertionSortCmpFunc_int__impl_BerthAll_1_4_c : Code := ((loopCodes slices_insertionSortCmpFunc_int__impl_BerthAll_1_code)[1]?).getD .skip
def slices_insertionSortCmpFunc_int__impl_BerthAll_1_ann : Ann := fun id => bif Nat.beq id 3000001 then some ⟨[], [], [4503599627370496]⟩ else bif Nat.beq id 5000004 then some ⟨[], [0, 1, 2, 3, 8], [4503599627370496]⟩ else none
def slices_insertionSortCmpFunc_int__impl_BerthAll_1_Ls (n : Nat) : Nat → Option (LSpec T) := fun id => bif Nat.beq id 1 then some (slices_insertionSortCmpFunc_int__impl_BerthAll_1_1_sp n) else bif Nat.beq id 4 then some (slices_insertionSortCmpFunc_int__impl_BerthAll_1_4_sp n) else none
theorem slices_insertionSortCmpFunc_int__impl_BerthAll_1_1_le (n : Nat) : LoopEq (T := T) (Phi n 27) (slices_insertionSortCmpFunc_int__impl_BerthAll_1_Ls n) slices_insertionSortCmpFunc_int__impl_BerthAll_1_ann n slices_insertionSortCmpFunc_int__impl_BerthAll_1_1_c (slices_insertionSortCmpFunc_int__impl_BerthAll_1_1_sp n) := ⟨mkSpec_dec (fun y => rfl), fun c x => by kernel_rfl, fun K J c x => by kernel_rfl⟩
theorem slices_insertionSortCmpFunc_int__impl_BerthAll_1_4_le (n : Nat) : LoopEq (T := T) (Phi n 27) (slices_insertionSortCmpFunc_int__impl_BerthAll_1_Ls n) slices_insertionSortCmpFunc_int__impl_BerthAll_1_ann n slices_insertionSortCmpFunc_int__impl_BerthAll_1_4_c (slices_insertionSortCmpFunc_int__impl_BerthAll_1_4_sp n) := ⟨mkSpec_dec (fun y => rfl), fun c x => by kernel_rfl, fun K J c x => by kernel_rfl⟩
theorem slices_insertionSortCmpFunc_int__impl_BerthAll_1_tie (n : Nat) (data0 : List Int) (a1 : Int) (b2 : Int) (cmp3c0 : List SCall) : evF (T := T) (Phi n 27) (slices_insertionSortCmpFunc_int__impl_BerthAll_1_Ls n) slices_insertionSortCmpFunc_int__impl_BerthAll_1_ann n Try.f201 (sg 201) [vA T 24 data0, vA T 3 a1, vA T 3 b2, .fn 94 [.ptr 44 cmp3c0]] slices_insertionSortCmpFunc_int__impl_BerthAll_1_dec = slices_insertionSortCmpFunc_int__impl_BerthAll_1 n data0 a1 b2 cmp3c0 := by kernel_rfl
theorem slices_insertionSortCmpFunc_int__impl_BerthAll_1_lo (n : Nat) : LoopsOk (T := T) (Phi n 27) (slices_insertionSortCmpFunc_int__impl_BerthAll_1_Ls n) slices_insertionSortCmpFunc_int__impl_BerthAll_1_ann n slices_insertionSortCmpFunc_int__impl_BerthAll_1_code := loopsOk_all (cs := [slices_insertionSortCmpFunc_int__impl_BerthAll_1_1_c, slices_insertionSortCmpFunc_int__impl_BerthAll_1_4_c]) (by kernel_rfl) ⟨⟨_, by kernel_rfl, slices_insertionSortCmpFunc_int__impl_BerthAll_1_1_le n⟩, ⟨_, by kernel_rfl, slices_insertionSortCmpFunc_int__impl_BerthAll_1_4_le n⟩, trivial⟩
theorem slices_insertionSortCmpFunc_int__impl_BerthAll_1_ok (n : Nat) : EntOk Try.prog (ents n) (slices_insertionSortCmpFunc_int__impl_BerthAll_1_ent n) := by
  intro hs ar y hg h
  replace h : slices_insertionSortCmpFunc_int__impl_BerthAll_1_D n ar = some y := h
  unfold slices_insertionSortCmpFunc_int__impl_BerthAll_1_D at h
  split at h
  · obtain ⟨data0, qh0, h⟩ := obind_some h
    obtain ⟨a1, qh1, h⟩ := obind_some h
    obtain ⟨b2, qh2, h⟩ := obind_some h
    obtain ⟨cmp3c0, qh3, h⟩ := obind_some h
    rw [argV_eq ok qh0, argV_eq ok qh1, argV_eq ok qh2, argP_eq qh3] at hg ⊢
    cases (show [_] = [94] from natsEq_eq hg)
    exact call_of (phiE_nat _ _) hs ok mixed Try.func201 (c := slices_insertionSortCmpFunc_int__impl_BerthAll_1_code) (by kernel_rfl) (slices_insertionSortCmpFunc_int__impl_BerthAll_1_lo n) (by kernel_rfl) (by kernel_rfl) (by kernel_rfl) slices_insertionSortCmpFunc_int__impl_BerthAll_1_de ((slices_insertionSortCmpFunc_int__impl_BerthAll_1_tie n data0 a1 b2 cmp3c0).trans h)
  · cases h
noncomputable def slices_swapRangeCmpFunc_int__impl_BerthAll_1_code : Code := match Try.f248.body with | some c => c | none => .skip
def slices_swapRangeCmpFunc_int__impl_BerthAll_1_1_sv : List Sv := [.one (.own 4503599627370496 3 false), .one (.int .i64), .one (.int .i64), .one (.int .i64), .one (.int .i64)]
def slices_swapRangeCmpFunc_int__impl_BerthAll_1_1_so : List So := [.arr 3 true]
def slices_swapRangeCmpFunc_int__impl_BerthAll_1_1_emb (c : Int × Int × Int) (x : Int × List Int) : EVs T slices_swapRangeCmpFunc_int__impl_BerthAll_1_1_sv × EOs T slices_swapRangeCmpFunc_int__impl_BerthAll_1_1_so := (((), c.1, c.2.1, c.2.2, x.1, ()), (x.2, ()))
def slices_swapRangeCmpFunc_int__impl_BerthAll_1_1_prj (y : EVs T slices_swapRangeCmpFunc_int__impl_BerthAll_1_1_sv × EOs T slices_swapRangeCmpFunc_int__impl_BerthAll_1_1_so) : (Int × Int × Int) × (Int × List Int) := ((y.1.2.1, y.1.2.2.1, y.1.2.2.2.1), (y.1.2.2.2.2.1, y.2.1))
def slices_swapRangeCmpFunc_int__impl_BerthAll_1_1_b (n : Nat) {R : Type} (K : Ex → Sm.St T → Option R) (c : Int × Int × Int) (x : Int × List Int) (J : (Int × List Int) → Option R) : Option R :=
  slices_swapRangeCmpFunc_int__impl_BerthAll_1_L1 n (fun (y0 : List Int) => K (.exit 0) (stOf (T := T) [] [4503599627370496] [] [.arr 3 true] () (y0, ()))) (fun z0 z1 => J (z0, z1)) c.1 c.2.1 c.2.2 x.1 x.2
def slices_swapRangeCmpFunc_int__impl_BerthAll_1_1_sp (n : Nat) : LSpec T := mkSpec T ⟨[], [0, 1, 2, 3, 10], [4503599627370496]⟩ slices_swapRangeCmpFunc_int__impl_BerthAll_1_1_sv slices_swapRangeCmpFunc_int__impl_BerthAll_1_1_so (Int × Int × Int) (Int × List Int) slices_swapRangeCmpFunc_int__impl_BerthAll_1_1_emb slices_swapRangeCmpFunc_int__impl_BerthAll_1_1_prj (slices_swapRangeCmpFunc_int__impl_BerthAll_1_1_b n)
noncomputable def slices_swapRangeCmpFunc_int__impl_BerthAll_1_1_c : Code := ((loopCodes slices_swapRangeCmpFunc_int__impl_BerthAll_1_code)[0]?).getD .skip
def slices_swapRangeCmpFunc_int__impl_BerthAll_1_ann : Ann := fun id => bif Nat.beq id 3000001 then some ⟨[], [], [4503599627370496]⟩ else none
def slices_swapRangeCmpFunc_int__impl_BerthAll_1_Ls (n : Nat) : Nat → Option (LSpec T) := fun id => bif Nat.beq id 1 then some (slices_swapRangeCmpFunc_int__impl_BerthAll_1_1_sp n) else none
theorem slices_swapRangeCmpFunc_int__impl_BerthAll_1_1_le (n : Nat) : LoopEq (T := T) (Phi n 28) (slices_swapRangeCmpFunc_int__impl_BerthAll_1_Ls n) slices_swapRangeCmpFunc_int__impl_BerthAll_1_ann n slices_swapRangeCmpFunc_int__impl_BerthAll_1_1_c (slices_swapRangeCmpFunc_int__impl_BerthAll_1_1_sp n) := ⟨mkSpec_dec (fun y => rfl), fun c x => by kernel_rfl, fun K J c x => by kernel_rfl⟩
theorem slices_swapRangeCmpFunc_int__impl_BerthAll_1_tie (n : Nat) (data0 : List Int) (a1 : Int) (b2 : Int) (n3 : Int) (cmp4c0 : List SCall) : evF (T := T) (Phi n 28) (slices_swapRangeCmpFunc_int__impl_BerthAll_1_Ls n) slices_swapRangeCmpFunc_int__impl_BerthAll_1_ann n Try.f248 (sg 248) [vA T 24 data0, vA T 3 a1, vA T 3 b2, vA T 3 n3, .fn 94 [.ptr 44 cmp4c0]] slices_swapRangeCmpFunc_int__impl_BerthAll_1_dec = slices_swapRangeCmpFunc_int__impl_BerthAll_1 n data0 a1 b2 n3 cmp4c0 := by kernel_rfl
theorem slices_swapRangeCmpFunc_int__impl_BerthAll_1_lo (n : Nat) : LoopsOk (T := T) (Phi n 28) (slices_swapRangeCmpFunc_int__impl_BerthAll_1_Ls n) slices_swapRangeCmpFunc_int__impl_BerthAll_1_ann n slices_swapRangeCmpFunc_int__impl_BerthAll_1_code := loopsOk_all (cs := [slices_swapRangeCmpFunc_int__impl_BerthAll_1_1_c]) (by kernel_rfl) ⟨⟨_, by kernel_rfl, slices_swapRangeCmpFunc_int__impl_BerthAll_1_1_le n⟩, trivial⟩
theorem slices_swapRangeCmpFunc_int__impl_BerthAll_1_ok (n : Nat) : EntOk Try.prog (ents n) (slices_swapRangeCmpFunc_int__impl_BerthAll_1_ent n) := by
  intro hs ar y hg h
  replace h : slices_swapRangeCmpFunc_int__impl_BerthAll_1_D n ar = some y := h
  unfold slices_swapRangeCmpFunc_int__impl_BerthAll_1_D at h
  split at h
  · obtain ⟨data0, qh0, h⟩ := obind_some h
    obtain ⟨a1, qh1, h⟩ := obind_some h
    obtain ⟨b2, qh2, h⟩ := obind_some h
    obtain ⟨n3, qh3, h⟩ := obind_some h
    obtain ⟨cmp4c0, qh4, h⟩ := obind_some h
    rw [argV_eq ok qh0, argV_eq ok qh1, argV_eq ok qh2, argV_eq ok qh3, argP_eq qh4] at hg ⊢
    cases (show [_] = [94] from natsEq_eq hg)
    exact call_of (phiE_nat _ _) hs ok mixed Try.func248 (c := slices_swapRangeCmpFunc_int__impl_BerthAll_1_code) (by kernel_rfl) (slices_swapRangeCmpFunc_int__impl_BerthAll_1_lo n) (by kernel_rfl) (by kernel_rfl) (by kernel_rfl) slices_swapRangeCmpFunc_int__impl_BerthAll_1_de ((slices_swapRangeCmpFunc_int__impl_BerthAll_1_tie n data0 a1 b2 n3 cmp4c0).trans h)
  · cases h
noncomputable def slices_rotateCmpFunc_int__impl_BerthAll_1_code : Code := match Try.f239.body with | some c => c | none => .skip
def slices_rotateCmpFunc_int__impl_BerthAll_1_2_sv : List Sv := [.one (.own 4503599627370496 3 false), .one (.int .i64), .one (.fnr 94 [44]), .one (.int .i64), .one (.int .i64)]
def slices_rotateCmpFunc_int__impl_BerthAll_1_2_so : List So := [.arr 3 true]
def slices_rotateCmpFunc_int__impl_BerthAll_1_2_emb (c : Int × List SCall) (x : Int × Int × List Int) : EVs T slices_rotateCmpFunc_int__impl_BerthAll_1_2_sv × EOs T slices_rotateCmpFunc_int__impl_BerthAll_1_2_so := (((), c.1, (c.2, ()), x.1, x.2.1, ()), (x.2.2, ()))
def slices_rotateCmpFunc_int__impl_BerthAll_1_2_prj (y : EVs T slices_rotateCmpFunc_int__impl_BerthAll_1_2_sv × EOs T slices_rotateCmpFunc_int__impl_BerthAll_1_2_so) : (Int × List SCall) × (Int × Int × List Int) := ((y.1.2.1, y.1.2.2.1.1), (y.1.2.2.2.1, y.1.2.2.2.2.1, y.2.1))
def slices_rotateCmpFunc_int__impl_BerthAll_1_2_b (n : Nat) {R : Type} (K : Ex → Sm.St T → Option R) (c : Int × List SCall) (x : Int × Int × List Int) (J : (Int × Int × List Int) → Option R) : Option R :=
  slices_rotateCmpFunc_int__impl_BerthAll_1_L2 n (fun (y2 : Int) (y3 : List Int) => K (.exit 0) (stOf (T := T) [0, 2, 4, 10] [4503599627370496] [.one (.own 4503599627370496 3 false), .one (.int .i64), .one (.fnr 94 [44]), .one (.int .i64)] [.arr 3 true] ((), c.1, (c.2, ()), y2, ()) (y3, ()))) (fun z0 z1 z2 => J (z0, z1, z2)) c.1 c.2 x.1 x.2.1 x.2.2
def slices_rotateCmpFunc_int__impl_BerthAll_1_2_sp (n : Nat) : LSpec T := mkSpec T ⟨[], [0, 2, 4, 10, 11], [4503599627370496]⟩ slices_rotateCmpFunc_int__impl_BerthAll_1_2_sv slices_rotateCmpFunc_int__impl_BerthAll_1_2_so (Int × List SCall) (Int × Int × List Int) slices_rotateCmpFunc_int__impl_BerthAll_1_2_emb slices_rotateCmpFunc_int__impl_BerthAll_1_2_prj (slices_rotateCmpFunc_int__impl_BerthAll_1_2_b n)
noncomputable def slices_rotateCmpFunc_int__impl_BerthAll_1_2_c : Code := ((loopCodes slices_rotateCmpFunc_int__impl_BerthAll_1_code)[0]?).getD .skip
def slices_rotateCmpFunc_int__impl_BerthAll_1_ann : Ann := fun id => bif Nat.beq id 3000002 then some ⟨[], [0, 2, 4, 10], [4503599627370496]⟩ else none
def slices_rotateCmpFunc_int__impl_BerthAll_1_Ls (n : Nat) : Nat → Option (LSpec T) := fun id => bif Nat.beq id 2 then some (slices_rotateCmpFunc_int__impl_BerthAll_1_2_sp n) else none
theorem slices_rotateCmpFunc_int__impl_BerthAll_1_2_le (n : Nat) : LoopEq (T := T) (Phi n 29) (slices_rotateCmpFunc_int__impl_BerthAll_1_Ls n) slices_rotateCmpFunc_int__impl_BerthAll_1_ann n slices_rotateCmpFunc_int__impl_BerthAll_1_2_c (slices_rotateCmpFunc_int__impl_BerthAll_1_2_sp n) := ⟨mkSpec_dec (fun y => rfl), fun c x => by kernel_rfl, fun K J c x => by kernel_rfl⟩
theorem slices_rotateCmpFunc_int__impl_BerthAll_1_tie (n : Nat) (data0 : List Int) (a1 : Int) (m2 : Int) (b3 : Int) (cmp4c0 : List SCall) : evF (T := T) (Phi n 29) (slices_rotateCmpFunc_int__impl_BerthAll_1_Ls n) slices_rotateCmpFunc_int__impl_BerthAll_1_ann n Try.f239 (sg 239) [vA T 24 data0, vA T 3 a1, vA T 3 m2, vA T 3 b3, .fn 94 [.ptr 44 cmp4c0]] slices_rotateCmpFunc_int__impl_BerthAll_1_dec = slices_rotateCmpFunc_int__impl_BerthAll_1 n data0 a1 m2 b3 cmp4c0 := by kernel_rfl
theorem slices_rotateCmpFunc_int__impl_BerthAll_1_lo (n : Nat) : LoopsOk (T := T) (Phi n 29) (slices_rotateCmpFunc_int__impl_BerthAll_1_Ls n) slices_rotateCmpFunc_int__impl_BerthAll_1_ann n slices_rotateCmpFunc_int__impl_BerthAll_1_code := loopsOk_all (cs := [slices_rotateCmpFunc_int__impl_BerthAll_1_2_c]) (by kernel_rfl) ⟨⟨_, by kernel_rfl, slices_rotateCmpFunc_int__impl_BerthAll_1_2_le n⟩, trivial⟩
theorem slices_rotateCmpFunc_int__impl_BerthAll_1_ok (n : Nat) : EntOk Try.prog (ents n) (slices_rotateCmpFunc_int__impl_BerthAll_1_ent n) := by
  intro hs ar y hg h
  replace h : slices_rotateCmpFunc_int__impl_BerthAll_1_D n ar = some y := h
  unfold slices_rotateCmpFunc_int__impl_BerthAll_1_D at h
  split at h
  · obtain ⟨data0, qh0, h⟩ := obind_some h
    obtain ⟨a1, qh1, h⟩ := obind_some h
    obtain ⟨m2, qh2, h⟩ := obind_some h
    obtain ⟨b3, qh3, h⟩ := obind_some h
    obtain ⟨cmp4c0, qh4, h⟩ := obind_some h
    rw [argV_eq ok qh0, argV_eq ok qh1, argV_eq ok qh2, argV_eq ok qh3, argP_eq qh4] at hg ⊢
    cases (show [_] = [94] from natsEq_eq hg)
    exact call_of (phiE_nat _ _) hs ok mixed Try.func239 (c := slices_rotateCmpFunc_int__impl_BerthAll_1_code) (by kernel_rfl) (slices_rotateCmpFunc_int__impl_BerthAll_1_lo n) (by kernel_rfl) (by kernel_rfl) (by kernel_rfl) slices_rotateCmpFunc_int__impl_BerthAll_1_de ((slices_rotateCmpFunc_int__impl_BerthAll_1_tie n data0 a1 m2 b3 cmp4c0).trans h)
  · cases h
abbrev slices_symMergeCmpFunc_int__impl_BerthAll_1_Phi (n : Nat) (rc : List Int → Int → Int → Int → List SCall → Option (List Int)) {R : Type} (g : Nat) (ar : List (A T)) (K : Res T → Option R) : Option R := PhiR (T := T) (PhiE (ents n) 30) 211 [94] (slices_symMergeCmpFunc_int__impl_BerthAll_1_Dr rc) slices_symMergeCmpFunc_int__impl_BerthAll_1_enc g ar K
noncomputable def slices_symMergeCmpFunc_int__impl_BerthAll_1_code : Code := match Try.f211.body with | some c => c | none => .skip
def slices_symMergeCmpFunc_int__impl_BerthAll_1_3_sv : List Sv := [.one (.own 4503599627370496 3 false), .one (.int .i64), .one (.fnr 94 [44]), .one (.int .i64), .one (.int .i64)]
def slices_symMergeCmpFunc_int__impl_BerthAll_1_3_so : List So := [.arr 3 true]
def slices_symMergeCmpFunc_int__impl_BerthAll_1_3_emb (c : Int × List SCall × List Int) (x : Int × Int) : EVs T slices_symMergeCmpFunc_int__impl_BerthAll_1_3_sv × EOs T slices_symMergeCmpFunc_int__impl_BerthAll_1_3_so := (((), c.1, (c.2.1, ()), x.1, x.2, ()), (c.2.2, ()))
def slices_symMergeCmpFunc_int__impl_BerthAll_1_3_prj (y : EVs T slices_symMergeCmpFunc_int__impl_BerthAll_1_3_sv × EOs T slices_symMergeCmpFunc_int__impl_BerthAll_1_3_so) : (Int × List SCall × List Int) × (Int × Int) := ((y.1.2.1, y.1.2.2.1.1, y.2.1), (y.1.2.2.2.1, y.1.2.2.2.2.1))
def slices_symMergeCmpFunc_int__impl_BerthAll_1_3_b (n : Nat) (rc : List Int → Int → Int → Int → List SCall → Option (List Int)) {R : Type} (K : Ex → Sm.St T → Option R) (c : Int × List SCall × List Int) (x : Int × Int) (J : (Int × Int) → Option R) : Option R :=
  slices_symMergeCmpFunc_int__impl_BerthAll_1_L3 n rc (fun (y1 : Int) => K (.exit 0) (stOf (T := T) [0, 1, 10] [4503599627370496] [.one (.own 4503599627370496 3 false), .one (.int .i64), .one (.int .i64)] [.arr 3 true] ((), c.1, y1, ()) (c.2.2, ()))) (fun z0 z1 => J (z0, z1)) c.1 c.2.1 x.1 x.2 c.2.2
def slices_symMergeCmpFunc_int__impl_BerthAll_1_3_sp (n : Nat) (rc : List Int → Int → Int → Int → List SCall → Option (List Int)) : LSpec T := mkSpec T ⟨[], [0, 1, 4, 10, 11], [4503599627370496]⟩ slices_symMergeCmpFunc_int__impl_BerthAll_1_3_sv slices_symMergeCmpFunc_int__impl_BerthAll_1_3_so (Int × List SCall × List Int) (Int × Int) slices_symMergeCmpFunc_int__impl_BerthAll_1_3_emb slices_symMergeCmpFunc_int__impl_BerthAll_1_3_prj (slices_symMergeCmpFunc_int__impl_BerthAll_1_3_b n rc)
noncomputable def slices_symMergeCmpFunc_int__impl_BerthAll_1_3_c : Code := ((loopCodes slices_symMergeCmpFunc_int__impl_BerthAll_1_code)[0]?).getD .skip
def slices_symMergeCmpFunc_int__impl_BerthAll_1_9_sv : List Sv := [.one (.own 4503599627370496 3 false), .one (.int .i64), .one (.int .i64)]
def slices_symMergeCmpFunc_int__impl_BerthAll_1_9_so : List So := [.arr 3 true]
def slices_symMergeCmpFunc_int__impl_BerthAll_1_9_emb (c : Int) (x : Int × List Int) : EVs T slices_symMergeCmpFunc_int__impl_BerthAll_1_9_sv × EOs T slices_symMergeCmpFunc_int__impl_BerthAll_1_9_so := (((), c, x.1, ()), (x.2, ()))
def slices_symMergeCmpFunc_int__impl_BerthAll_1_9_prj (y : EVs T slices_symMergeCmpFunc_int__impl_BerthAll_1_9_sv × EOs T slices_symMergeCmpFunc_int__impl_BerthAll_1_9_so) : Int × (Int × List Int) := ((y.1.2.1), (y.1.2.2.1, y.2.1))
def slices_symMergeCmpFunc_int__impl_BerthAll_1_9_b (n : Nat) (rc : List Int → Int → Int → Int → List SCall → Option (List Int)) {R : Type} (K : Ex → Sm.St T → Option R) (c : Int) (x : Int × List Int) (J : (Int × List Int) → Option R) : Option R :=
  slices_symMergeCmpFunc_int__impl_BerthAll_1_L9 n rc (fun (y0 : List Int) => K (.exit 2) (stOf (T := T) [] [4503599627370496] [] [.arr 3 true] () (y0, ()))) (fun z0 z1 => J (z0, z1)) c x.1 x.2
def slices_symMergeCmpFunc_int__impl_BerthAll_1_9_sp (n : Nat) (rc : List Int → Int → Int → Int → List SCall → Option (List Int)) : LSpec T := mkSpec T ⟨[], [0, 10, 13], [4503599627370496]⟩ slices_symMergeCmpFunc_int__impl_BerthAll_1_9_sv slices_symMergeCmpFunc_int__impl_BerthAll_1_9_so (Int) (Int × List Int) slices_symMergeCmpFunc_int__impl_BerthAll_1_9_emb slices_symMergeCmpFunc_int__impl_BerthAll_1_9_prj (slices_symMergeCmpFunc_int__impl_BerthAll_1_9_b n rc)
noncomputable def slices_symMergeCmpFunc_int__impl_BerthAll_1_9_c : Code := ((loopCodes slices_symMergeCmpFunc_int__impl_BerthAll_1_code)[1]?).getD .skip
def slices_symMergeCmpFunc_int__impl_BerthAll_1_15_sv : List Sv := [.one (.own 4503599627370496 3 false), .one (.int .i64), .one (.fnr 94 [44]), .one (.int .i64), .one (.int .i64)]
def slices_symMergeCmpFunc_int__impl_BerthAll_1_15_so : List So := [.arr 3 true]
def slices_symMergeCmpFunc_int__impl_BerthAll_1_15_emb (c : Int × List SCall × List Int) (x : Int × Int) : EVs T slices_symMergeCmpFunc_int__impl_BerthAll_1_15_sv × EOs T slices_symMergeCmpFunc_int__impl_BerthAll_1_15_so := (((), c.1, (c.2.1, ()), x.1, x.2, ()), (c.2.2, ()))
def slices_symMergeCmpFunc_int__impl_BerthAll_1_15_prj (y : EVs T slices_symMergeCmpFunc_int__impl_BerthAll_1_15_sv × EOs T slices_symMergeCmpFunc_int__impl_BerthAll_1_15_so) : (Int × List SCall × List Int) × (Int × Int) := ((y.1.2.1, y.1.2.2.1.1, y.2.1), (y.1.2.2.2.1, y.1.2.2.2.2.1))
def slices_symMergeCmpFunc_int__impl_BerthAll_1_15_b (n : Nat) (rc : List Int → Int → Int → Int → List SCall → Option (List Int)) {R : Type} (K : Ex → Sm.St T → Option R) (c : Int × List SCall × List Int) (x : Int × Int) (J : (Int × Int) → Option R) : Option R :=
  slices_symMergeCmpFunc_int__impl_BerthAll_1_L15 n rc (fun (y1 : Int) => K (.exit 4) (stOf (T := T) [0, 2, 14] [4503599627370496] [.one (.own 4503599627370496 3 false), .one (.int .i64), .one (.int .i64)] [.arr 3 true] ((), c.1, y1, ()) (c.2.2, ()))) (fun z0 z1 => J (z0, z1)) c.1 c.2.1 x.1 x.2 c.2.2
def slices_symMergeCmpFunc_int__impl_BerthAll_1_15_sp (n : Nat) (rc : List Int → Int → Int → Int → List SCall → Option (List Int)) : LSpec T := mkSpec T ⟨[], [0, 2, 4, 14, 15], [4503599627370496]⟩ slices_symMergeCmpFunc_int__impl_BerthAll_1_15_sv slices_symMergeCmpFunc_int__impl_BerthAll_1_15_so (Int × List SCall × List Int) (Int × Int) slices_symMergeCmpFunc_int__impl_BerthAll_1_15_emb slices_symMergeCmpFunc_int__impl_BerthAll_1_15_prj (slices_symMergeCmpFunc_int__impl_BerthAll_1_15_b n rc)
noncomputable def slices_symMergeCmpFunc_int__impl_BerthAll_1_15_c : Code := ((loopCodes slices_symMergeCmpFunc_int__impl_BerthAll_1_code)[2]?).getD .skip
def slices_symMergeCmpFunc_int__impl_BerthAll_1_21_sv : List Sv := [.one (.own 4503599627370496 3 false), .one (.int .i64), .one (.int .i64)]
def slices_symMergeCmpFunc_int__impl_BerthAll_1_21_so : List So := [.arr 3 true]
def slices_symMergeCmpFunc_int__impl_BerthAll_1_21_emb (c : Int) (x : Int × List Int) : EVs T slices_symMergeCmpFunc_int__impl_BerthAll_1_21_sv × EOs T slices_symMergeCmpFunc_int__impl_BerthAll_1_21_so := (((), c, x.1, ()), (x.2, ()))
def slices_symMergeCmpFunc_int__impl_BerthAll_1_21_prj (y : EVs T slices_symMergeCmpFunc_int__impl_BerthAll_1_21_sv × EOs T slices_symMergeCmpFunc_int__impl_BerthAll_1_21_so) : Int × (Int × List Int) := ((y.1.2.1), (y.1.2.2.1, y.2.1))
def slices_symMergeCmpFunc_int__impl_BerthAll_1_21_b (n : Nat) (rc : List Int → Int → Int → Int → List SCall → Option (List Int)) {R : Type} (K : Ex → Sm.St T → Option R) (c : Int) (x : Int × List Int) (J : (Int × List Int) → Option R) : Option R :=
  slices_symMergeCmpFunc_int__impl_BerthAll_1_L21 n rc (fun (y0 : List Int) => K (.exit 6) (stOf (T := T) [] [4503599627370496] [] [.arr 3 true] () (y0, ()))) (fun z0 z1 => J (z0, z1)) c x.1 x.2
def slices_symMergeCmpFunc_int__impl_BerthAll_1_21_sp (n : Nat) (rc : List Int → Int → Int → Int → List SCall → Option (List Int)) : LSpec T := mkSpec T ⟨[], [0, 14, 17], [4503599627370496]⟩ slices_symMergeCmpFunc_int__impl_BerthAll_1_21_sv slices_symMergeCmpFunc_int__impl_BerthAll_1_21_so (Int) (Int × List Int) slices_symMergeCmpFunc_int__impl_BerthAll_1_21_emb slices_symMergeCmpFunc_int__impl_BerthAll_1_21_prj (slices_symMergeCmpFunc_int__impl_BerthAll_1_21_b n rc)
noncomputable def slices_symMergeCmpFunc_int__impl_BerthAll_1_21_c : Code := ((loopCodes slices_symMergeCmpFunc_int__impl_BerthAll_1_code)[3]?).getD .skip
def slices_symMergeCmpFunc_int__impl_BerthAll_1_33_sv : List Sv := [.one (.own 4503599627370496 3 false), .one (.int .i64), .one (.int .i64), .one (.int .i64), .one (.fnr 94 [44]), .one (.int .i64), .one (.int .i64), .one (.int .i64), .one (.int .i64), .one (.int .i64)]
def slices_symMergeCmpFunc_int__impl_BerthAll_1_33_so : List So := [.arr 3 true]
def slices_symMergeCmpFunc_int__impl_BerthAll_1_33_emb (c : Int × Int × Int × List SCall × Int × Int × Int × List Int) (x : Int × Int) : EVs T slices_symMergeCmpFunc_int__impl_BerthAll_1_33_sv × EOs T slices_symMergeCmpFunc_int__impl_BerthAll_1_33_so := (((), c.1, c.2.1, c.2.2.1, (c.2.2.2.1, ()), c.2.2.2.2.1, c.2.2.2.2.2.1, x.1, x.2, c.2.2.2.2.2.2.1, ()), (c.2.2.2.2.2.2.2, ()))
def slices_symMergeCmpFunc_int__impl_BerthAll_1_33_prj (y : EVs T slices_symMergeCmpFunc_int__impl_BerthAll_1_33_sv × EOs T slices_symMergeCmpFunc_int__impl_BerthAll_1_33_so) : (Int × Int × Int × List SCall × Int × Int × Int × List Int) × (Int × Int) := ((y.1.2.1, y.1.2.2.1, y.1.2.2.2.1, y.1.2.2.2.2.1.1, y.1.2.2.2.2.2.1, y.1.2.2.2.2.2.2.1, y.1.2.2.2.2.2.2.2.2.2.1, y.2.1), (y.1.2.2.2.2.2.2.2.1, y.1.2.2.2.2.2.2.2.2.1))
def slices_symMergeCmpFunc_int__impl_BerthAll_1_33_b (n : Nat) (rc : List Int → Int → Int → Int → List SCall → Option (List Int)) {R : Type} (K : Ex → Sm.St T → Option R) (c : Int × Int × Int × List SCall × Int × Int × Int × List Int) (x : Int × Int) (J : (Int × Int) → Option R) : Option R :=
  slices_symMergeCmpFunc_int__impl_BerthAll_1_L33 n rc (fun (y6 : Int) => K (.exit 8) (stOf (T := T) [0, 1, 2, 3, 4, 18, 19, 20] [4503599627370496] [.one (.own 4503599627370496 3 false), .one (.int .i64), .one (.int .i64), .one (.int .i64), .one (.fnr 94 [44]), .one (.int .i64), .one (.int .i64), .one (.int .i64)] [.arr 3 true] ((), c.1, c.2.1, c.2.2.1, (c.2.2.2.1, ()), c.2.2.2.2.1, c.2.2.2.2.2.1, y6, ()) (c.2.2.2.2.2.2.2, ()))) (fun z0 z1 => J (z0, z1)) c.1 c.2.1 c.2.2.1 c.2.2.2.1 c.2.2.2.2.1 c.2.2.2.2.2.1 x.1 x.2 c.2.2.2.2.2.2.1 c.2.2.2.2.2.2.2
def slices_symMergeCmpFunc_int__impl_BerthAll_1_33_sp (n : Nat) (rc : List Int → Int → Int → Int → List SCall → Option (List Int)) : LSpec T := mkSpec T ⟨[], [0, 1, 2, 3, 4, 18, 19, 20, 21, 22], [4503599627370496]⟩ slices_symMergeCmpFunc_int__impl_BerthAll_1_33_sv slices_symMergeCmpFunc_int__impl_BerthAll_1_33_so (Int × Int × Int × List SCall × Int × Int × Int × List Int) (Int × Int) slices_symMergeCmpFunc_int__impl_BerthAll_1_33_emb slices_symMergeCmpFunc_int__impl_BerthAll_1_33_prj (slices_symMergeCmpFunc_int__impl_BerthAll_1_33_b n rc)
noncomputable def slices_symMergeCmpFunc_int__impl_BerthAll_1_33_c : Code := ((loopCodes slices_symMergeCmpFunc_int__impl_BerthAll_1_code)[4]?).getD .skip
def slices_symMergeCmpFunc_int__impl_BerthAll_1_ann : Ann := fun id => bif Nat.beq id 3000003 then some ⟨[], [0, 1, 10], [4503599627370496]⟩ else bif Nat.beq id 5000009 then some ⟨[], [], [4503599627370496]⟩ else bif Nat.beq id 7000015 then some ⟨[], [0, 2, 14], [4503599627370496]⟩ else bif Nat.beq id 9000021 then some ⟨[], [], [4503599627370496]⟩ else bif Nat.beq id 11000033 then some ⟨[], [0, 1, 2, 3, 4, 18, 19, 20], [4503599627370496]⟩ else none
def slices_symMergeCmpFunc_int__impl_BerthAll_1_Ls (n : Nat) (rc : List Int → Int → Int → Int → List SCall → Option (List Int)) : Nat → Option (LSpec T) := fun id => bif Nat.beq id 3 then some (slices_symMergeCmpFunc_int__impl_BerthAll_1_3_sp n rc) else bif Nat.beq id 9 then some (slices_symMergeCmpFunc_int__impl_BerthAll_1_9_sp n rc) else bif Nat.beq id 15 then some (slices_symMergeCmpFunc_int__impl_BerthAll_1_15_sp n rc) else bif Nat.beq id 21 then some (slices_symMergeCmpFunc_int__impl_BerthAll_1_21_sp n rc) else bif Nat.beq id 33 then some (slices_symMergeCmpFunc_int__impl_BerthAll_1_33_sp n rc) else none
theorem slices_symMergeCmpFunc_int__impl_BerthAll_1_3_le (n : Nat) (rc : List Int → Int → Int → Int → List SCall → Option (List Int)) : LoopEq (T := T) (slices_symMergeCmpFunc_int__impl_BerthAll_1_Phi n rc) (slices_symMergeCmpFunc_int__impl_BerthAll_1_Ls n rc) slices_symMergeCmpFunc_int__impl_BerthAll_1_ann n slices_symMergeCmpFunc_int__impl_BerthAll_1_3_c (slices_symMergeCmpFunc_int__impl_BerthAll_1_3_sp n rc) := ⟨mkSpec_dec (fun y => rfl), fun c x => by kernel_rfl, fun K J c x => by kernel_rfl⟩
theorem slices_symMergeCmpFunc_int__impl_BerthAll_1_9_le (n : Nat) (rc : List Int → Int → Int → Int → List SCall → Option (List Int)) : LoopEq (T := T) (slices_symMergeCmpFunc_int__impl_BerthAll_1_Phi n rc) (slices_symMergeCmpFunc_int__impl_BerthAll_1_Ls n rc) slices_symMergeCmpFunc_int__impl_BerthAll_1_ann n slices_symMergeCmpFunc_int__impl_BerthAll_1_9_c (slices_symMergeCmpFunc_int__impl_BerthAll_1_9_sp n rc) := ⟨mkSpec_dec (fun y => rfl), fun c x => by kernel_rfl, fun K J c x => by kernel_rfl⟩
theorem slices_symMergeCmpFunc_int__impl_BerthAll_1_15_le (n : Nat) (rc : List Int → Int → Int → Int → List SCall → Option (List Int)) : LoopEq (T := T) (slices_symMergeCmpFunc_int__impl_BerthAll_1_Phi n rc) (slices_symMergeCmpFunc_int__impl_BerthAll_1_Ls n rc) slices_symMergeCmpFunc_int__impl_BerthAll_1_ann n slices_symMergeCmpFunc_int__impl_BerthAll_1_15_c (slices_symMergeCmpFunc_int__impl_BerthAll_1_15_sp n rc) := ⟨mkSpec_dec (fun y => rfl), fun c x => by kernel_rfl, fun K J c x => by kernel_rfl⟩
theorem slices_symMergeCmpFunc_int__impl_BerthAll_1_21_le (n : Nat) (rc : List Int → Int → Int → Int → List SCall → Option (List Int)) : LoopEq (T := T) (slices_symMergeCmpFunc_int__impl_BerthAll_1_Phi n rc) (slices_symMergeCmpFunc_int__impl_BerthAll_1_Ls n rc) slices_symMergeCmpFunc_int__impl_BerthAll_1_ann n slices_symMergeCmpFunc_int__impl_BerthAll_1_21_c (slices_symMergeCmpFunc_int__impl_BerthAll_1_21_sp n rc) := ⟨mkSpec_dec (fun y => rfl), fun c x => by kernel_rfl, fun K J c x => by kernel_rfl⟩
theorem slices_symMergeCmpFunc_int__impl_BerthAll_1_33_le (n : Nat) (rc : List Int → Int → Int → Int → List SCall → Option (List Int)) : LoopEq (T := T) (slices_symMergeCmpFunc_int__impl_BerthAll_1_Phi n rc) (slices_symMergeCmpFunc_int__impl_BerthAll_1_Ls n rc) slices_symMergeCmpFunc_int__impl_BerthAll_1_ann n slices_symMergeCmpFunc_int__impl_BerthAll_1_33_c (slices_symMergeCmpFunc_int__impl_BerthAll_1_33_sp n rc) := ⟨mkSpec_dec (fun y => rfl), fun c x => by kernel_rfl, fun K J c x => by kernel_rfl⟩
theorem slices_symMergeCmpFunc_int__impl_BerthAll_1_tie (n : Nat) (rc : List Int → Int → Int → Int → List SCall → Option (List Int)) (data0 : List Int) (a1 : Int) (m2 : Int) (b3 : Int) (cmp4c0 : List SCall) : evF (T := T) (slices_symMergeCmpFunc_int__impl_BerthAll_1_Phi n rc) (slices_symMergeCmpFunc_int__impl_BerthAll_1_Ls n rc) slices_symMergeCmpFunc_int__impl_BerthAll_1_ann n Try.f211 (sg 211) [vA T 24 data0, vA T 3 a1, vA T 3 m2, vA T 3 b3, .fn 94 [.ptr 44 cmp4c0]] slices_symMergeCmpFunc_int__impl_BerthAll_1_dec = slices_symMergeCmpFunc_int__impl_BerthAll_1_b n rc data0 a1 m2 b3 cmp4c0 := by kernel_rfl
theorem slices_symMergeCmpFunc_int__impl_BerthAll_1_lo (n : Nat) (rc : List Int → Int → Int → Int → List SCall → Option (List Int)) : LoopsOk (T := T) (slices_symMergeCmpFunc_int__impl_BerthAll_1_Phi n rc) (slices_symMergeCmpFunc_int__impl_BerthAll_1_Ls n rc) slices_symMergeCmpFunc_int__impl_BerthAll_1_ann n slices_symMergeCmpFunc_int__impl_BerthAll_1_code := loopsOk_all (cs := [slices_symMergeCmpFunc_int__impl_BerthAll_1_3_c, slices_symMergeCmpFunc_int__impl_BerthAll_1_9_c, slices_symMergeCmpFunc_int__impl_BerthAll_1_15_c, slices_symMergeCmpFunc_int__impl_BerthAll_1_21_c, slices_symMergeCmpFunc_int__impl_BerthAll_1_33_c]) (by kernel_rfl) ⟨⟨_, by kernel_rfl, slices_symMergeCmpFunc_int__impl_BerthAll_1_3_le n rc⟩, ⟨_, by kernel_rfl, slices_symMergeCmpFunc_int__impl_BerthAll_1_9_le n rc⟩, ⟨_, by kernel_rfl, slices_symMergeCmpFunc_int__impl_BerthAll_1_15_le n rc⟩, ⟨_, by kernel_rfl, slices_symMergeCmpFunc_int__impl_BerthAll_1_21_le n rc⟩, ⟨_, by kernel_rfl, slices_symMergeCmpFunc_int__impl_BerthAll_1_33_le n rc⟩, trivial⟩
theorem slices_symMergeCmpFunc_int__impl_BerthAll_1_okr (n : Nat) (hs : SemOk (PhiE (T := T) (ents n) 30) (CallOk Try.prog T)) : ∀ m ar y, natsEq (fnsOf ar) [94] = true → slices_symMergeCmpFunc_int__impl_BerthAll_1_Dr (slices_symMergeCmpFunc_int__impl_BerthAll_1_r n m) ar = some y → CallOk Try.prog T 211 ar (slices_symMergeCmpFunc_int__impl_BerthAll_1_enc y) := by
  intro m
  induction m with
  | zero =>
    intro ar y hg h
    unfold slices_symMergeCmpFunc_int__impl_BerthAll_1_Dr at h
    split at h
    · obtain ⟨data0, qh0, h⟩ := obind_some h
      obtain ⟨a1, qh1, h⟩ := obind_some h
      obtain ⟨m2, qh2, h⟩ := obind_some h
      obtain ⟨b3, qh3, h⟩ := obind_some h
      obtain ⟨cmp4c0, qh4, h⟩ := obind_some h
      rw [argV_eq ok qh0, argV_eq ok qh1, argV_eq ok qh2, argV_eq ok qh3, argP_eq qh4] at hg ⊢
      cases (show [_] = [94] from natsEq_eq hg)
      exact nomatch (show (none : Option (List Int)) = some y from h)
    · cases h
  | succ m ih =>
    intro ar y hg h
    unfold slices_symMergeCmpFunc_int__impl_BerthAll_1_Dr at h
    split at h
    · obtain ⟨data0, qh0, h⟩ := obind_some h
      obtain ⟨a1, qh1, h⟩ := obind_some h
      obtain ⟨m2, qh2, h⟩ := obind_some h
      obtain ⟨b3, qh3, h⟩ := obind_some h
      obtain ⟨cmp4c0, qh4, h⟩ := obind_some h
      rw [argV_eq ok qh0, argV_eq ok qh1, argV_eq ok qh2, argV_eq ok qh3, argP_eq qh4] at hg ⊢
      cases (show [_] = [94] from natsEq_eq hg)
      exact call_of (phiR_nat (phiE_nat _ _) _ _ _ _) (phiR_ok hs ih) ok mixed Try.func211 (c := slices_symMergeCmpFunc_int__impl_BerthAll_1_code) (by kernel_rfl) (slices_symMergeCmpFunc_int__impl_BerthAll_1_lo n (slices_symMergeCmpFunc_int__impl_BerthAll_1_r n m)) (by kernel_rfl) (by kernel_rfl) (by kernel_rfl) slices_symMergeCmpFunc_int__impl_BerthAll_1_de ((slices_symMergeCmpFunc_int__impl_BerthAll_1_tie n (slices_symMergeCmpFunc_int__impl_BerthAll_1_r n m) data0 a1 m2 b3 cmp4c0).trans h)
    · cases h
theorem slices_symMergeCmpFunc_int__impl_BerthAll_1_ok (n : Nat) : EntOk Try.prog (ents n) (slices_symMergeCmpFunc_int__impl_BerthAll_1_ent n) := fun hs ar y hg h => slices_symMergeCmpFunc_int__impl_BerthAll_1_okr n hs n ar y hg h
noncomputable def slices_stableCmpFunc_int__impl_BerthAll_1_code : Code := match Try.f171.body with | some c => c | none => .skip
def slices_stableCmpFunc_int__impl_BerthAll_1_2_sv : List Sv := [.one (.own 4503599627370496 3 false), .one (.int .i64), .one (.fnr 94 [44]), .one (.int .i64), .one (.int .i64), .one (.int .i64)]
def slices_stableCmpFunc_int__impl_BerthAll_1_2_so : List So := [.arr 3 true]
def slices_stableCmpFunc_int__impl_BerthAll_1_2_emb (c : Int × List SCall × Int) (x : Int × Int × List Int) : EVs T slices_stableCmpFunc_int__impl_BerthAll_1_2_sv × EOs T slices_stableCmpFunc_int__impl_BerthAll_1_2_so := (((), c.1, (c.2.1, ()), c.2.2, x.1, x.2.1, ()), (x.2.2, ()))
def slices_stableCmpFunc_int__impl_BerthAll_1_2_prj (y : EVs T slices_stableCmpFunc_int__impl_BerthAll_1_2_sv × EOs T slices_stableCmpFunc_int__impl_BerthAll_1_2_so) : (Int × List SCall × Int) × (Int × Int × List Int) := ((y.1.2.1, y.1.2.2.1.1, y.1.2.2.2.1), (y.1.2.2.2.2.1, y.1.2.2.2.2.2.1, y.2.1))
def slices_stableCmpFunc_int__impl_BerthAll_1_2_b (n : Nat) {R : Type} (K : Ex → Sm.St T → Option R) (c : Int × List SCall × Int) (x : Int × Int × List Int) (J : (Int × Int × List Int) → Option R) : Option R :=
  slices_stableCmpFunc_int__impl_BerthAll_1_L2 n (fun (y3 : Int) (y4 : List Int) => K (.exit 0) (stOf (T := T) [0, 1, 2, 6, 7] [4503599627370496] [.one (.own 4503599627370496 3 false), .one (.int .i64), .one (.fnr 94 [44]), .one (.int .i64), .one (.int .i64)] [.arr 3 true] ((), c.1, (c.2.1, ()), c.2.2, y3, ()) (y4, ()))) (fun z0 z1 z2 => J (z0, z1, z2)) c.1 c.2.1 c.2.2 x.1 x.2.1 x.2.2
def slices_stableCmpFunc_int__impl_BerthAll_1_2_sp (n : Nat) : LSpec T := mkSpec T ⟨[], [0, 1, 2, 6, 7, 8], [4503599627370496]⟩ slices_stableCmpFunc_int__impl_BerthAll_1_2_sv slices_stableCmpFunc_int__impl_BerthAll_1_2_so (Int × List SCall × Int) (Int × Int × List Int) slices_stableCmpFunc_int__impl_BerthAll_1_2_emb slices_stableCmpFunc_int__impl_BerthAll_1_2_prj (slices_stableCmpFunc_int__impl_BerthAll_1_2_b n)
noncomputable def slices_stableCmpFunc_int__impl_BerthAll_1_2_c : Code := ((loopCodes slices_stableCmpFunc_int__impl_BerthAll_1_code)[0]?).getD .skip
def slices_stableCmpFunc_int__impl_BerthAll_1_7_sv : List Sv := [.one (.own 4503599627370496 3 false), .one (.int .i64), .one (.fnr 94 [44]), .one (.int .i64)]
def slices_stableCmpFunc_int__impl_BerthAll_1_7_so : List So := [.arr 3 true]
def slices_stableCmpFunc_int__impl_BerthAll_1_7_emb (c : Int × List SCall) (x : Int × List Int) : EVs T slices_stableCmpFunc_int__impl_BerthAll_1_7_sv × EOs T slices_stableCmpFunc_int__impl_BerthAll_1_7_so := (((), c.1, (c.2, ()), x.1, ()), (x.2, ()))
def slices_stableCmpFunc_int__impl_BerthAll_1_7_prj (y : EVs T slices_stableCmpFunc_int__impl_BerthAll_1_7_sv × EOs T slices_stableCmpFunc_int__impl_BerthAll_1_7_so) : (Int × List SCall) × (Int × List Int) := ((y.1.2.1, y.1.2.2.1.1), (y.1.2.2.2.1, y.2.1))
def slices_stableCmpFunc_int__impl_BerthAll_1_7_b (n : Nat) {R : Type} (K : Ex → Sm.St T → Option R) (c : Int × List SCall) (x : Int × List Int) (J : (Int × List Int) → Option R) : Option R :=
  slices_stableCmpFunc_int__impl_BerthAll_1_L7 n (fun (y0 : List Int) => K (.exit 2) (stOf (T := T) [] [4503599627370496] [] [.arr 3 true] () (y0, ()))) (fun z0 z1 => J (z0, z1)) c.1 c.2 x.1 x.2
def slices_stableCmpFunc_int__impl_BerthAll_1_7_sp (n : Nat) : LSpec T := mkSpec T ⟨[], [0, 1, 2, 6], [4503599627370496]⟩ slices_stableCmpFunc_int__impl_BerthAll_1_7_sv slices_stableCmpFunc_int__impl_BerthAll_1_7_so (Int × List SCall) (Int × List Int) slices_stableCmpFunc_int__impl_BerthAll_1_7_emb slices_stableCmpFunc_int__impl_BerthAll_1_7_prj (slices_stableCmpFunc_int__impl_BerthAll_1_7_b n)
noncomputable def slices_stableCmpFunc_int__impl_BerthAll_1_7_c : Code := ((loopCodes slices_stableCmpFunc_int__impl_BerthAll_1_code)[1]?).getD .skip
def slices_stableCmpFunc_int__impl_BerthAll_1_9_sv : List Sv := [.one (.own 4503599627370496 3 false), .one (.int .i64), .one (.fnr 94 [44]), .one (.int .i64), .one (.int .i64), .one (.int .i64)]
def slices_stableCmpFunc_int__impl_BerthAll_1_9_so : List So := [.arr 3 true]
def slices_stableCmpFunc_int__impl_BerthAll_1_9_emb (c : Int × List SCall × Int) (x : Int × Int × List Int) : EVs T slices_stableCmpFunc_int__impl_BerthAll_1_9_sv × EOs T slices_stableCmpFunc_int__impl_BerthAll_1_9_so := (((), c.1, (c.2.1, ()), c.2.2, x.1, x.2.1, ()), (x.2.2, ()))
def slices_stableCmpFunc_int__impl_BerthAll_1_9_prj (y : EVs T slices_stableCmpFunc_int__impl_BerthAll_1_9_sv × EOs T slices_stableCmpFunc_int__impl_BerthAll_1_9_so) : (Int × List SCall × Int) × (Int × Int × List Int) := ((y.1.2.1, y.1.2.2.1.1, y.1.2.2.2.1), (y.1.2.2.2.2.1, y.1.2.2.2.2.2.1, y.2.1))
def slices_stableCmpFunc_int__impl_BerthAll_1_9_b (n : Nat) {R : Type} (K : Ex → Sm.St T → Option R) (c : Int × List SCall × Int) (x : Int × Int × List Int) (J : (Int × Int × List Int) → Option R) : Option R :=
  slices_stableCmpFunc_int__impl_BerthAll_1_L9 n (fun (y3 : Int) (y4 : List Int) => K (.exit 4) (stOf (T := T) [0, 1, 2, 6, 7] [4503599627370496] [.one (.own 4503599627370496 3 false), .one (.int .i64), .one (.fnr 94 [44]), .one (.int .i64), .one (.int .i64)] [.arr 3 true] ((), c.1, (c.2.1, ()), c.2.2, y3, ()) (y4, ()))) (fun z0 z1 z2 => J (z0, z1, z2)) c.1 c.2.1 c.2.2 x.1 x.2.1 x.2.2
def slices_stableCmpFunc_int__impl_BerthAll_1_9_sp (n : Nat) : LSpec T := mkSpec T ⟨[], [0, 1, 2, 6, 7, 8], [4503599627370496]⟩ slices_stableCmpFunc_int__impl_BerthAll_1_9_sv slices_stableCmpFunc_int__impl_BerthAll_1_9_so (Int × List SCall × Int) (Int × Int × List Int) slices_stableCmpFunc_int__impl_BerthAll_1_9_emb slices_stableCmpFunc_int__impl_BerthAll_1_9_prj (slices_stableCmpFunc_int__impl_BerthAll_1_9_b n)
noncomputable def slices_stableCmpFunc_int__impl_BerthAll_1_9_c : Code := ((loopCodes slices_stableCmpFunc_int__impl_BerthAll_1_code)[2]?).getD .skip
def slices_stableCmpFunc_int__impl_BerthAll_1_ann : Ann := fun id => bif Nat.beq id 3000002 then some ⟨[], [0, 1, 2, 6, 7], [4503599627370496]⟩ else bif Nat.beq id 5000007 then some ⟨[], [], [4503599627370496]⟩ else bif Nat.beq id 7000009 then some ⟨[], [0, 1, 2, 6, 7], [4503599627370496]⟩ else none
def slices_stableCmpFunc_int__impl_BerthAll_1_Ls (n : Nat) : Nat → Option (LSpec T) := fun id => bif Nat.beq id 2 then some (slices_stableCmpFunc_int__impl_BerthAll_1_2_sp n) else bif Nat.beq id 7 then some (slices_stableCmpFunc_int__impl_BerthAll_1_7_sp n) else bif Nat.beq id 9 then some (slices_stableCmpFunc_int__impl_BerthAll_1_9_sp n) else none
theorem slices_stableCmpFunc_int__impl_BerthAll_1_2_le (n : Nat) : LoopEq (T := T) (Phi n 31) (slices_stableCmpFunc_int__impl_BerthAll_1_Ls n) slices_stableCmpFunc_int__impl_BerthAll_1_ann n slices_stableCmpFunc_int__impl_BerthAll_1_2_c (slices_stableCmpFunc_int__impl_BerthAll_1_2_sp n) := ⟨mkSpec_dec (fun y => rfl), fun c x => by kernel_rfl, fun K J c x => by kernel_rfl⟩
theorem slices_stableCmpFunc_int__impl_BerthAll_1_7_le (n : Nat) : LoopEq (T := T) (Phi n 31) (slices_stableCmpFunc_int__impl_BerthAll_1_Ls n) slices_stableCmpFunc_int__impl_BerthAll_1_ann n slices_stableCmpFunc_int__impl_BerthAll_1_7_c (slices_stableCmpFunc_int__impl_BerthAll_1_7_sp n) := ⟨mkSpec_dec (fun y => rfl), fun c x => by kernel_rfl, fun K J c x => by kernel_rfl⟩
theorem slices_stableCmpFunc_int__impl_BerthAll_1_9_le (n : Nat) : LoopEq (T := T) (Phi n 31) (slices_stableCmpFunc_int__impl_BerthAll_1_Ls n) slices_stableCmpFunc_int__impl_BerthAll_1_ann n slices_stableCmpFunc_int__impl_BerthAll_1_9_c (slices_stableCmpFunc_int__impl_BerthAll_1_9_sp n) := ⟨mkSpec_dec (fun y => rfl), fun c x => by kernel_rfl, fun K J c x => by kernel_rfl⟩
theorem slices_stableCmpFunc_int__impl_BerthAll_1_tie (n : Nat) (data0 : List Int) (n1 : Int) (cmp2c0 : List SCall) : evF (T := T) (Phi n 31) (slices_stableCmpFunc_int__impl_BerthAll_1_Ls n) slices_stableCmpFunc_int__impl_BerthAll_1_ann n Try.f171 (sg 171) [vA T 24 data0, vA T 3 n1, .fn 94 [.ptr 44 cmp2c0]] slices_stableCmpFunc_int__impl_BerthAll_1_dec = slices_stableCmpFunc_int__impl_BerthAll_1 n data0 n1 cmp2c0 := by kernel_rfl
theorem slices_stableCmpFunc_int__impl_BerthAll_1_lo (n : Nat) : LoopsOk (T := T) (Phi n 31) (slices_stableCmpFunc_int__impl_BerthAll_1_Ls n) slices_stableCmpFunc_int__impl_BerthAll_1_ann n slices_stableCmpFunc_int__impl_BerthAll_1_code := loopsOk_all (cs := [slices_stableCmpFunc_int__impl_BerthAll_1_2_c, slices_stableCmpFunc_int__impl_BerthAll_1_7_c, slices_stableCmpFunc_int__impl_BerthAll_1_9_c]) (by kernel_rfl) ⟨⟨_, by kernel_rfl, slices_stableCmpFunc_int__impl_BerthAll_1_2_le n⟩, ⟨_, by kernel_rfl, slices_stableCmpFunc_int__impl_BerthAll_1_7_le n⟩, ⟨_, by kernel_rfl, slices_stableCmpFunc_int__impl_BerthAll_1_9_le n⟩, trivial⟩
theorem slices_stableCmpFunc_int__impl_BerthAll_1_ok (n : Nat) : EntOk Try.prog (ents n) (slices_stableCmpFunc_int__impl_BerthAll_1_ent n) := by
  intro hs ar y hg h
  replace h : slices_stableCmpFunc_int__impl_BerthAll_1_D n ar = some y := h
  unfold slices_stableCmpFunc_int__impl_BerthAll_1_D at h
  split at h
  · obtain ⟨data0, qh0, h⟩ := obind_some h
    obtain ⟨n1, qh1, h⟩ := obind_some h
    obtain ⟨cmp2c0, qh2, h⟩ := obind_some h
    rw [argV_eq ok qh0, argV_eq ok qh1, argP_eq qh2] at hg ⊢
    cases (show [_] = [94] from natsEq_eq hg)
    exact call_of (phiE_nat _ _) hs ok mixed Try.func171 (c := slices_stableCmpFunc_int__impl_BerthAll_1_code) (by kernel_rfl) (slices_stableCmpFunc_int__impl_BerthAll_1_lo n) (by kernel_rfl) (by kernel_rfl) (by kernel_rfl) slices_stableCmpFunc_int__impl_BerthAll_1_de ((slices_stableCmpFunc_int__impl_BerthAll_1_tie n data0 n1 cmp2c0).trans h)
  · cases h
noncomputable def slices_SortStableFunc_int_int__impl_BerthAll_1_code : Code := match Try.f93.body with | some c => c | none => .skip
def slices_SortStableFunc_int_int__impl_BerthAll_1_ann : Ann := fun id => none
def slices_SortStableFunc_int_int__impl_BerthAll_1_Ls (n : Nat) : Nat → Option (LSpec T) := fun id => none
theorem slices_SortStableFunc_int_int__impl_BerthAll_1_tie (n : Nat) (x0 : List Int) (cmp1c0 : List SCall) : evF (T := T) (Phi n 32) (slices_SortStableFunc_int_int__impl_BerthAll_1_Ls n) slices_SortStableFunc_int_int__impl_BerthAll_1_ann n Try.f93 (sg 93) [vA T 24 x0, .fn 94 [.ptr 44 cmp1c0]] slices_SortStableFunc_int_int__impl_BerthAll_1_dec = slices_SortStableFunc_int_int__impl_BerthAll_1 n x0 cmp1c0 := by kernel_rfl
theorem slices_SortStableFunc_int_int__impl_BerthAll_1_lo (n : Nat) : LoopsOk (T := T) (Phi n 32) (slices_SortStableFunc_int_int__impl_BerthAll_1_Ls n) slices_SortStableFunc_int_int__impl_BerthAll_1_ann n slices_SortStableFunc_int_int__impl_BerthAll_1_code := loopsOk_all (cs := []) (by kernel_rfl) trivial
theorem slices_SortStableFunc_int_int__impl_BerthAll_1_ok (n : Nat) : EntOk Try.prog (ents n) (slices_SortStableFunc_int_int__impl_BerthAll_1_ent n) := by
  intro hs ar y hg h
  replace h : slices_SortStableFunc_int_int__impl_BerthAll_1_D n ar = some y := h
  unfold slices_SortStableFunc_int_int__impl_BerthAll_1_D at h
  split at h
  · obtain ⟨x0, qh0, h⟩ := obind_some h
    obtain ⟨cmp1c0, qh1, h⟩ := obind_some h
    rw [argV_eq ok qh0, argP_eq qh1] at hg ⊢
    cases (show [_] = [94] from natsEq_eq hg)
    exact call_of (phiE_nat _ _) hs ok mixed Try.func93 (c := slices_SortStableFunc_int_int__impl_BerthAll_1_code) (by kernel_rfl) (slices_SortStableFunc_int_int__impl_BerthAll_1_lo n) (by kernel_rfl) (by kernel_rfl) (by kernel_rfl) slices_SortStableFunc_int_int__impl_BerthAll_1_de ((slices_SortStableFunc_int_int__impl_BerthAll_1_tie n x0 cmp1c0).trans h)
  · cases h
noncomputable def impl_Berth_1_code : Code := match Try.f102.body with | some c => c | none => .skip
def impl_Berth_1_ann : Ann := fun id => none
def impl_Berth_1_Ls (n : Nat) : Nat → Option (LSpec T) := fun id => none
theorem impl_Berth_1_tie (n : Nat) (c0 : SCall) (a1 : Int) : evF (T := T) (Phi n 33) (impl_Berth_1_Ls n) impl_Berth_1_ann n Try.f102 (sg 102) [vA T 55 c0, .ptr 3 a1] impl_Berth_1_dec = impl_Berth_1 n c0 a1 := by kernel_rfl
theorem impl_Berth_1_lo (n : Nat) : LoopsOk (T := T) (Phi n 33) (impl_Berth_1_Ls n) impl_Berth_1_ann n impl_Berth_1_code := loopsOk_all (cs := []) (by kernel_rfl) trivial
theorem impl_Berth_1_ok (n : Nat) : EntOk Try.prog (ents n) (impl_Berth_1_ent n) := by
  intro hs ar y hg h
  replace h : impl_Berth_1_D n ar = some y := h
  unfold impl_Berth_1_D at h
  replace h := ocons_some h
  obtain ⟨a0, r0, rfl, h⟩ := h
  replace h := ocons_some h
  obtain ⟨a1, r1, rfl, h⟩ := h
  replace h := onil_some h
  obtain ⟨rfl, h⟩ := h
  obtain ⟨c0, qh0, h⟩ := obind_some h
  obtain ⟨a1, qh1, h⟩ := obind_some h
  rw [argV_eq ok qh0, argP_eq qh1]
  exact call_of (phiE_nat _ _) hs ok mixed Try.func102 (c := impl_Berth_1_code) (by kernel_rfl) (impl_Berth_1_lo n) (by kernel_rfl) (by kernel_rfl) (by kernel_rfl) impl_Berth_1_de ((impl_Berth_1_tie n c0 a1).trans h)
noncomputable def slices_IndexFunc_impl_Call_impl_Call__impl_Berth_1_code : Code := match Try.f101.body with | some c => c | none => .skip
def slices_IndexFunc_impl_Call_impl_Call__impl_Berth_1_2_sv : List Sv := [.one (.arr 55), .one (.fnr 102 [3]), .one (.int .i64), .one (.int .i64)]
def slices_IndexFunc_impl_Call_impl_Call__impl_Berth_1_2_so : List So := []
def slices_IndexFunc_impl_Call_impl_Call__impl_Berth_1_2_emb (c : List SCall × Int × Int) (x : Int) : EVs T slices_IndexFunc_impl_Call_impl_Call__impl_Berth_1_2_sv × EOs T slices_IndexFunc_impl_Call_impl_Call__impl_Berth_1_2_so := ((c.1, (c.2.1, ()), c.2.2, x, ()), ())
def slices_IndexFunc_impl_Call_impl_Call__impl_Berth_1_2_prj (y : EVs T slices_IndexFunc_impl_Call_impl_Call__impl_Berth_1_2_sv × EOs T slices_IndexFunc_impl_Call_impl_Call__impl_Berth_1_2_so) : (List SCall × Int × Int) × Int := ((y.1.1, y.1.2.1.1, y.1.2.2.1), (y.1.2.2.2.1))
def slices_IndexFunc_impl_Call_impl_Call__impl_Berth_1_2_b (n : Nat) {R : Type} (K : Ex → Sm.St T → Option R) (c : List SCall × Int × Int) (x : Int) (J : Int → Option R) : Option R :=
  slices_IndexFunc_impl_Call_impl_Call__impl_Berth_1_L2 n (K (.exit 0) (stOf (T := T) [] [] [] [] () ())) (fun (y0 : Int) => K .ret (stOf (T := T) [4] [] [.one (.int .i64)] [] (y0, ()) ())) J c.1 c.2.1 c.2.2 x
def slices_IndexFunc_impl_Call_impl_Call__impl_Berth_1_2_sp (n : Nat) : LSpec T := mkSpec T ⟨[], [0, 1, 7, 8], []⟩ slices_IndexFunc_impl_Call_impl_Call__impl_Berth_1_2_sv slices_IndexFunc_impl_Call_impl_Call__impl_Berth_1_2_so (List SCall × Int × Int) (Int) slices_IndexFunc_impl_Call_impl_Call__impl_Berth_1_2_emb slices_IndexFunc_impl_Call_impl_Call__impl_Berth_1_2_prj (slices_IndexFunc_impl_Call_impl_Call__impl_Berth_1_2_b n)
noncomputable def slices_IndexFunc_impl_Call_impl_Call__impl_Berth_1_2_c : Code := ((loopCodes slices_IndexFunc_impl_Call_impl_Call__impl_Berth_1_code)[0]?).getD .skip
def slices_IndexFunc_impl_Call_impl_Call__impl_Berth_1_ann : Ann := fun id => bif Nat.beq id 3000002 then some ⟨[], [], []⟩ else bif Nat.beq id 2000002 then some ⟨[], [4], []⟩ else none
def slices_IndexFunc_impl_Call_impl_Call__impl_Berth_1_Ls (n : Nat) : Nat → Option (LSpec T) := fun id => bif Nat.beq id 2 then some (slices_IndexFunc_impl_Call_impl_Call__impl_Berth_1_2_sp n) else none
theorem slices_IndexFunc_impl_Call_impl_Call__impl_Berth_1_2_le (n : Nat) : LoopEq (T := T) (Phi n 34) (slices_IndexFunc_impl_Call_impl_Call__impl_Berth_1_Ls n) slices_IndexFunc_impl_Call_impl_Call__impl_Berth_1_ann n slices_IndexFunc_impl_Call_impl_Call__impl_Berth_1_2_c (slices_IndexFunc_impl_Call_impl_Call__impl_Berth_1_2_sp n) := ⟨mkSpec_dec (fun y => rfl), fun c x => by kernel_rfl, fun K J c x => by kernel_rfl⟩
theorem slices_IndexFunc_impl_Call_impl_Call__impl_Berth_1_tie (n : Nat) (s0 : List SCall) (f1c0 : Int) : evF (T := T) (Phi n 34) (slices_IndexFunc_impl_Call_impl_Call__impl_Berth_1_Ls n) slices_IndexFunc_impl_Call_impl_Call__impl_Berth_1_ann n Try.f101 (sg 101) [vA T 44 s0, .fn 102 [.ptr 3 f1c0]] slices_IndexFunc_impl_Call_impl_Call__impl_Berth_1_dec = slices_IndexFunc_impl_Call_impl_Call__impl_Berth_1 n s0 f1c0 := by kernel_rfl
theorem slices_IndexFunc_impl_Call_impl_Call__impl_Berth_1_lo (n : Nat) : LoopsOk (T := T) (Phi n 34) (slices_IndexFunc_impl_Call_impl_Call__impl_Berth_1_Ls n) slices_IndexFunc_impl_Call_impl_Call__impl_Berth_1_ann n slices_IndexFunc_impl_Call_impl_Call__impl_Berth_1_code := loopsOk_all (cs := [slices_IndexFunc_impl_Call_impl_Call__impl_Berth_1_2_c]) (by kernel_rfl) ⟨⟨_, by kernel_rfl, slices_IndexFunc_impl_Call_impl_Call__impl_Berth_1_2_le n⟩, trivial⟩
theorem slices_IndexFunc_impl_Call_impl_Call__impl_Berth_1_ok (n : Nat) : EntOk Try.prog (ents n) (slices_IndexFunc_impl_Call_impl_Call__impl_Berth_1_ent n) := by
  intro hs ar y hg h
  replace h : slices_IndexFunc_impl_Call_impl_Call__impl_Berth_1_D n ar = some y := h
  unfold slices_IndexFunc_impl_Call_impl_Call__impl_Berth_1_D at h
  split at h
  · obtain ⟨s0, qh0, h⟩ := obind_some h
    obtain ⟨f1c0, qh1, h⟩ := obind_some h
    rw [argV_eq ok qh0, argP_eq qh1] at hg ⊢
    cases (show [_] = [102] from natsEq_eq hg)
    exact call_of (phiE_nat _ _) hs ok mixed Try.func101 (c := slices_IndexFunc_impl_Call_impl_Call__impl_Berth_1_code) (by kernel_rfl) (slices_IndexFunc_impl_Call_impl_Call__impl_Berth_1_lo n) (by kernel_rfl) (by kernel_rfl) (by kernel_rfl) slices_IndexFunc_impl_Call_impl_Call__impl_Berth_1_de ((slices_IndexFunc_impl_Call_impl_Call__impl_Berth_1_tie n s0 f1c0).trans h)
  · cases h
noncomputable def impl_Berth_2_code : Code := match Try.f103.body with | some c => c | none => .skip
def impl_Berth_2_ann : Ann := fun id => none
def impl_Berth_2_Ls (n : Nat) : Nat → Option (LSpec T) := fun id => none
theorem impl_Berth_2_tie (n : Nat) (x0 : SCall) (a1 : Int) (a2 : SCall) : evF (T := T) (Phi n 35) (impl_Berth_2_Ls n) impl_Berth_2_ann n Try.f103 (sg 103) [vA T 55 x0, .ptr 3 a1, .ptr 55 a2] impl_Berth_2_dec = impl_Berth_2 n x0 a1 a2 := by kernel_rfl
theorem impl_Berth_2_lo (n : Nat) : LoopsOk (T := T) (Phi n 35) (impl_Berth_2_Ls n) impl_Berth_2_ann n impl_Berth_2_code := loopsOk_all (cs := []) (by kernel_rfl) trivial
theorem impl_Berth_2_ok (n : Nat) : EntOk Try.prog (ents n) (impl_Berth_2_ent n) := by
  intro hs ar y hg h
  replace h : impl_Berth_2_D n ar = some y := h
  unfold impl_Berth_2_D at h
  replace h := ocons_some h
  obtain ⟨a0, r0, rfl, h⟩ := h
  replace h := ocons_some h
  obtain ⟨a1, r1, rfl, h⟩ := h
  replace h := ocons_some h
  obtain ⟨a2, r2, rfl, h⟩ := h
  replace h := onil_some h
  obtain ⟨rfl, h⟩ := h
  obtain ⟨x0, qh0, h⟩ := obind_some h
  obtain ⟨a1, qh1, h⟩ := obind_some h
  obtain ⟨a2, qh2, h⟩ := obind_some h
  rw [argV_eq ok qh0, argP_eq qh1, argP_eq qh2]
  exact call_of (phiE_nat _ _) hs ok mixed Try.func103 (c := impl_Berth_2_code) (by kernel_rfl) (impl_Berth_2_lo n) (by kernel_rfl) (by kernel_rfl) (by kernel_rfl) impl_Berth_2_de ((impl_Berth_2_tie n x0 a1 a2).trans h)
noncomputable def slices_IndexFunc_impl_Call_impl_Call__impl_Berth_2_code : Code := match Try.f101.body with | some c => c | none => .skip
def slices_IndexFunc_impl_Call_impl_Call__impl_Berth_2_2_sv : List Sv := [.one (.arr 55), .one (.fnr 103 [3, 55]), .one (.int .i64), .one (.int .i64)]
def slices_IndexFunc_impl_Call_impl_Call__impl_Berth_2_2_so : List So := []
def slices_IndexFunc_impl_Call_impl_Call__impl_Berth_2_2_emb (c : List SCall × Int × SCall × Int) (x : Int) : EVs T slices_IndexFunc_impl_Call_impl_Call__impl_Berth_2_2_sv × EOs T slices_IndexFunc_impl_Call_impl_Call__impl_Berth_2_2_so := ((c.1, (c.2.1, c.2.2.1, ()), c.2.2.2, x, ()), ())
def slices_IndexFunc_impl_Call_impl_Call__impl_Berth_2_2_prj (y : EVs T slices_IndexFunc_impl_Call_impl_Call__impl_Berth_2_2_sv × EOs T slices_IndexFunc_impl_Call_impl_Call__impl_Berth_2_2_so) : (List SCall × Int × SCall × Int) × Int := ((y.1.1, y.1.2.1.1, y.1.2.1.2.1, y.1.2.2.1), (y.1.2.2.2.1))
def slices_IndexFunc_impl_Call_impl_Call__impl_Berth_2_2_b (n : Nat) {R : Type} (K : Ex → Sm.St T → Option R) (c : List SCall × Int × SCall × Int) (x : Int) (J : Int → Option R) : Option R :=
  slices_IndexFunc_impl_Call_impl_Call__impl_Berth_2_L2 n (K (.exit 0) (stOf (T := T) [] [] [] [] () ())) (fun (y0 : Int) => K .ret (stOf (T := T) [4] [] [.one (.int .i64)] [] (y0, ()) ())) J c.1 c.2.1 c.2.2.1 c.2.2.2 x
def slices_IndexFunc_impl_Call_impl_Call__impl_Berth_2_2_sp (n : Nat) : LSpec T := mkSpec T ⟨[], [0, 1, 7, 8], []⟩ slices_IndexFunc_impl_Call_impl_Call__impl_Berth_2_2_sv slices_IndexFunc_impl_Call_impl_Call__impl_Berth_2_2_so (List SCall × Int × SCall × Int) (Int) slices_IndexFunc_impl_Call_impl_Call__impl_Berth_2_2_emb slices_IndexFunc_impl_Call_impl_Call__impl_Berth_2_2_prj (slices_IndexFunc_impl_Call_impl_Call__impl_Berth_2_2_b n)
noncomputable def slices_IndexFunc_impl_Call_impl_Call__impl_Berth_2_2_c : Code := ((loopCodes slices_IndexFunc_impl_Call_impl_Call__impl_Berth_2_code)[0]?).getD .skip
def slices_IndexFunc_impl_Call_impl_Call__impl_Berth_2_ann : Ann := fun id => bif Nat.beq id 3000002 then some ⟨[], [], []⟩ else bif Nat.beq id 2000002 then some ⟨[], [4], []⟩ else none
def slices_IndexFunc_impl_Call_impl_Call__impl_Berth_2_Ls (n : Nat) : Nat → Option (LSpec T) := fun id => bif Nat.beq id 2 then some (slices_IndexFunc_impl_Call_impl_Call__impl_Berth_2_2_sp n) else none
theorem slices_IndexFunc_impl_Call_impl_Call__impl_Berth_2_2_le (n : Nat) : LoopEq (T := T) (Phi n 36) (slices_IndexFunc_impl_Call_impl_Call__impl_Berth_2_Ls n) slices_IndexFunc_impl_Call_impl_Call__impl_Berth_2_ann n slices_IndexFunc_impl_Call_impl_Call__impl_Berth_2_2_c (slices_IndexFunc_impl_Call_impl_Call__impl_Berth_2_2_sp n) := ⟨mkSpec_dec (fun y => rfl), fun c x => by kernel_rfl, fun K J c x => by kernel_rfl⟩
theorem slices_IndexFunc_impl_Call_impl_Call__impl_Berth_2_tie (n : Nat) (s0 : List SCall) (f1c0 : Int) (f1c1 : SCall) : evF (T := T) (Phi n 36) (slices_IndexFunc_impl_Call_impl_Call__impl_Berth_2_Ls n) slices_IndexFunc_impl_Call_impl_Call__impl_Berth_2_ann n Try.f101 (sg 101) [vA T 44 s0, .fn 103 [.ptr 3 f1c0, .ptr 55 f1c1]] slices_IndexFunc_impl_Call_impl_Call__impl_Berth_2_dec = slices_IndexFunc_impl_Call_impl_Call__impl_Berth_2 n s0 f1c0 f1c1 := by kernel_rfl
theorem slices_IndexFunc_impl_Call_impl_Call__impl_Berth_2_lo (n : Nat) : LoopsOk (T := T) (Phi n 36) (slices_IndexFunc_impl_Call_impl_Call__impl_Berth_2_Ls n) slices_IndexFunc_impl_Call_impl_Call__impl_Berth_2_ann n slices_IndexFunc_impl_Call_impl_Call__impl_Berth_2_code := loopsOk_all (cs := [slices_IndexFunc_impl_Call_impl_Call__impl_Berth_2_2_c]) (by kernel_rfl) ⟨⟨_, by kernel_rfl, slices_IndexFunc_impl_Call_impl_Call__impl_Berth_2_2_le n⟩, trivial⟩
theorem slices_IndexFunc_impl_Call_impl_Call__impl_Berth_2_ok (n : Nat) : EntOk Try.prog (ents n) (slices_IndexFunc_impl_Call_impl_Call__impl_Berth_2_ent n) := by
  intro hs ar y hg h
  replace h : slices_IndexFunc_impl_Call_impl_Call__impl_Berth_2_D n ar = some y := h
  unfold slices_IndexFunc_impl_Call_impl_Call__impl_Berth_2_D at h
  split at h
  · obtain ⟨s0, qh0, h⟩ := obind_some h
    obtain ⟨f1c0, qh1, h⟩ := obind_some h
    obtain ⟨f1c1, qh2, h⟩ := obind_some h
    rw [argV_eq ok qh0, argP_eq qh1, argP_eq qh2] at hg ⊢
    cases (show [_] = [103] from natsEq_eq hg)
    exact call_of (phiE_nat _ _) hs ok mixed Try.func101 (c := slices_IndexFunc_impl_Call_impl_Call__impl_Berth_2_code) (by kernel_rfl) (slices_IndexFunc_impl_Call_impl_Call__impl_Berth_2_lo n) (by kernel_rfl) (by kernel_rfl) (by kernel_rfl) slices_IndexFunc_impl_Call_impl_Call__impl_Berth_2_de ((slices_IndexFunc_impl_Call_impl_Call__impl_Berth_2_tie n s0 f1c0 f1c1).trans h)
  · cases h
noncomputable def slices_ContainsFunc_impl_Call_impl_Call__impl_Berth_2_code : Code := match Try.f98.body with | some c => c | none => .skip
def slices_ContainsFunc_impl_Call_impl_Call__impl_Berth_2_ann : Ann := fun id => none
def slices_ContainsFunc_impl_Call_impl_Call__impl_Berth_2_Ls (n : Nat) : Nat → Option (LSpec T) := fun id => none
theorem slices_ContainsFunc_impl_Call_impl_Call__impl_Berth_2_tie (n : Nat) (s0 : List SCall) (f1c0 : Int) (f1c1 : SCall) : evF (T := T) (Phi n 37) (slices_ContainsFunc_impl_Call_impl_Call__impl_Berth_2_Ls n) slices_ContainsFunc_impl_Call_impl_Call__impl_Berth_2_ann n Try.f98 (sg 98) [vA T 44 s0, .fn 103 [.ptr 3 f1c0, .ptr 55 f1c1]] slices_ContainsFunc_impl_Call_impl_Call__impl_Berth_2_dec = slices_ContainsFunc_impl_Call_impl_Call__impl_Berth_2 n s0 f1c0 f1c1 := by kernel_rfl
theorem slices_ContainsFunc_impl_Call_impl_Call__impl_Berth_2_lo (n : Nat) : LoopsOk (T := T) (Phi n 37) (slices_ContainsFunc_impl_Call_impl_Call__impl_Berth_2_Ls n) slices_ContainsFunc_impl_Call_impl_Call__impl_Berth_2_ann n slices_ContainsFunc_impl_Call_impl_Call__impl_Berth_2_code := loopsOk_all (cs := []) (by kernel_rfl) trivial
theorem slices_ContainsFunc_impl_Call_impl_Call__impl_Berth_2_ok (n : Nat) : EntOk Try.prog (ents n) (slices_ContainsFunc_impl_Call_impl_Call__impl_Berth_2_ent n) := by
  intro hs ar y hg h
  replace h : slices_ContainsFunc_impl_Call_impl_Call__impl_Berth_2_D n ar = some y := h
  unfold slices_ContainsFunc_impl_Call_impl_Call__impl_Berth_2_D at h
  split at h
  · obtain ⟨s0, qh0, h⟩ := obind_some h
    obtain ⟨f1c0, qh1, h⟩ := obind_some h
    obtain ⟨f1c1, qh2, h⟩ := obind_some h
    rw [argV_eq ok qh0, argP_eq qh1, argP_eq qh2] at hg ⊢
    cases (show [_] = [103] from natsEq_eq hg)
    exact call_of (phiE_nat _ _) hs ok mixed Try.func98 (c := slices_ContainsFunc_impl_Call_impl_Call__impl_Berth_2_code) (by kernel_rfl) (slices_ContainsFunc_impl_Call_impl_Call__impl_Berth_2_lo n) (by kernel_rfl) (by kernel_rfl) (by kernel_rfl) slices_ContainsFunc_impl_Call_impl_Call__impl_Berth_2_de ((slices_ContainsFunc_impl_Call_impl_Call__impl_Berth_2_tie n s0 f1c0 f1c1).trans h)
  · cases h
noncomputable def impl_Berth_code : Code := match Try.f36.body with | some c => c | none => .skip
def impl_Berth_6_sv : List Sv := [.one (.int .i64), .one (.arr 55), .one (.ptr 40 0 0), .one (.ptr 72 0 0)]
def impl_Berth_6_so : List So := [.var [.int .i64], .var [.int .i64, .int .i64, .int .i64, .int .i64, .int .i64]]
def impl_Berth_6_emb (c : Int × List SCall × Int) (x : SCall) : EVs T impl_Berth_6_sv × EOs T impl_Berth_6_so := ((c.1, c.2.1, (), (), ()), ((c.2.2, ()), (x.Id, x.Long, x.From, x.To, x.At, ()), ()))
def impl_Berth_6_prj (y : EVs T impl_Berth_6_sv × EOs T impl_Berth_6_so) : (Int × List SCall × Int) × SCall := ((y.1.1, y.1.2.1, y.2.1.1), (((⟨y.2.2.1.1, y.2.2.1.2.1, y.2.2.1.2.2.1, y.2.2.1.2.2.2.1, y.2.2.1.2.2.2.2.1⟩ : SCall) : SCall)))
def impl_Berth_6_b (n : Nat) {R : Type} (K : Ex → Sm.St T → Option R) (c : Int × List SCall × Int) (x : SCall) (J : SCall → Option R) : Option R :=
  impl_Berth_L6 n (K (.exit 0) (stOf (T := T) [] [] [] [] () ())) (fun (y0 : Int) (y1 : Bool) => K .ret (stOf (T := T) [6, 7] [] [.one (.int .i64), .one (.bool)] [] (y0, y1, ()) ())) J c.1 c.2.1 c.2.2 x
def impl_Berth_6_sp (n : Nat) : LSpec T := mkSpec T ⟨[], [0, 1, 5, 9], [40, 72]⟩ impl_Berth_6_sv impl_Berth_6_so (Int × List SCall × Int) (SCall) impl_Berth_6_emb impl_Berth_6_prj (impl_Berth_6_b n)
noncomputable def impl_Berth_6_c : Code := ((loopCodes impl_Berth_code)[0]?).getD .skip
def impl_Berth_ann : Ann := fun id => bif Nat.beq id 3000006 then some ⟨[], [], []⟩ else bif Nat.beq id 2000006 then some ⟨[], [6, 7], []⟩ else none
def impl_Berth_Ls (n : Nat) : Nat → Option (LSpec T) := fun id => bif Nat.beq id 6 then some (impl_Berth_6_sp n) else none
theorem impl_Berth_6_le (n : Nat) : LoopEq (T := T) (Phi n 38) (impl_Berth_Ls n) impl_Berth_ann n impl_Berth_6_c (impl_Berth_6_sp n) := ⟨mkSpec_dec (fun y => rfl), fun c x => by kernel_rfl, fun K J c x => by kernel_rfl⟩
theorem impl_Berth_tie (n : Nat) (long0 : Int) (calls1 : List SCall) (id2 : Int) : evF (T := T) (Phi n 38) (impl_Berth_Ls n) impl_Berth_ann n Try.f36 (sg 36) [vA T 3 long0, vA T 44 calls1, vA T 3 id2] impl_Berth_dec = impl_Berth n long0 calls1 id2 := by kernel_rfl
theorem impl_Berth_lo (n : Nat) : LoopsOk (T := T) (Phi n 38) (impl_Berth_Ls n) impl_Berth_ann n impl_Berth_code := loopsOk_all (cs := [impl_Berth_6_c]) (by kernel_rfl) ⟨⟨_, by kernel_rfl, impl_Berth_6_le n⟩, trivial⟩
theorem impl_Berth_ok (n : Nat) : EntOk Try.prog (ents n) (impl_Berth_ent n) := by
  intro hs ar y hg h
  replace h : impl_Berth_D n ar = some y := h
  unfold impl_Berth_D at h
  replace h := ocons_some h
  obtain ⟨a0, r0, rfl, h⟩ := h
  replace h := ocons_some h
  obtain ⟨a1, r1, rfl, h⟩ := h
  replace h := ocons_some h
  obtain ⟨a2, r2, rfl, h⟩ := h
  replace h := onil_some h
  obtain ⟨rfl, h⟩ := h
  obtain ⟨long0, qh0, h⟩ := obind_some h
  obtain ⟨calls1, qh1, h⟩ := obind_some h
  obtain ⟨id2, qh2, h⟩ := obind_some h
  rw [argV_eq ok qh0, argV_eq ok qh1, argV_eq ok qh2]
  exact call_of (phiE_nat _ _) hs ok mixed Try.func36 (c := impl_Berth_code) (by kernel_rfl) (impl_Berth_lo n) (by kernel_rfl) (by kernel_rfl) (by kernel_rfl) impl_Berth_de ((impl_Berth_tie n long0 calls1 id2).trans h)
noncomputable def impl_BerthAll_code : Code := match Try.f29.body with | some c => c | none => .skip
def impl_BerthAll_6_sv : List Sv := [.one (.int .i64), .one (.ptr 48 0 0), .one (.own 3000000 3 false), .one (.own 3000002 55 false), .one (.int .i64), .one (.int .i64)]
def impl_BerthAll_6_so : List So := [.var [.own 3000002 55 false], .arr 55 false, .arr 3 false]
def impl_BerthAll_6_emb (c : Int × Int × List SCall) (x : Int × List Int) : EVs T impl_BerthAll_6_sv × EOs T impl_BerthAll_6_so := ((c.1, (), (), (), c.2.1, x.1, ()), (((), ()), c.2.2, x.2, ()))
def impl_BerthAll_6_prj (y : EVs T impl_BerthAll_6_sv × EOs T impl_BerthAll_6_so) : (Int × Int × List SCall) × (Int × List Int) := ((y.1.1, y.1.2.2.2.2.1, y.2.2.1), (y.1.2.2.2.2.2.1, y.2.2.2.1))
def impl_BerthAll_6_b (n : Nat) {R : Type} (K : Ex → Sm.St T → Option R) (c : Int × Int × List SCall) (x : Int × List Int) (J : (Int × List Int) → Option R) : Option R :=
  impl_BerthAll_L6 n (fun (y2 : List Int) => K (.exit 0) (stOf (T := T) [0, 6, 7] [48, 3000002, 3000000] [.one (.int .i64), .one (.ptr 48 0 0), .one (.own 3000000 3 false)] [.var [.own 3000002 55 false], .arr 55 false, .arr 3 false] (c.1, (), (), ()) (((), ()), c.2.2, y2, ()))) (fun z0 z1 => J (z0, z1)) c.1 c.2.1 x.1 c.2.2 x.2
def impl_BerthAll_6_sp (n : Nat) : LSpec T := mkSpec T ⟨[((.reg 7), 3000000, 3), ((.reg 20), 3000001, 55), ((.cell 48 0), 3000002, 55)], [0, 6, 7, 20, 21, 22], [48, 3000002, 3000000]⟩ impl_BerthAll_6_sv impl_BerthAll_6_so (Int × Int × List SCall) (Int × List Int) impl_BerthAll_6_emb impl_BerthAll_6_prj (impl_BerthAll_6_b n)
noncomputable def impl_BerthAll_6_c : Code := ((loopCodes impl_BerthAll_code)[0]?).getD .skip
def impl_BerthAll_13_sv : List Sv := [.one (.int .i64), .one (.ptr 48 0 0), .one (.own 3000003 3 false), .one (.int .i64), .one (.int .i64)]
def impl_BerthAll_13_so : List So := [.var [.own 3000002 55 false], .arr 55 false, .arr 3 false]
def impl_BerthAll_13_emb (c : Int × Int × List Int) (x : Int × List SCall) : EVs T impl_BerthAll_13_sv × EOs T impl_BerthAll_13_so := ((c.1, (), (), c.2.1, x.1, ()), (((), ()), x.2, c.2.2, ()))
def impl_BerthAll_13_prj (y : EVs T impl_BerthAll_13_sv × EOs T impl_BerthAll_13_so) : (Int × Int × List Int) × (Int × List SCall) := ((y.1.1, y.1.2.2.2.1, y.2.2.2.1), (y.1.2.2.2.2.1, y.2.2.1))
def impl_BerthAll_13_b (n : Nat) {R : Type} (K : Ex → Sm.St T → Option R) (c : Int × Int × List Int) (x : Int × List SCall) (J : (Int × List SCall) → Option R) : Option R :=
  impl_BerthAll_L13 n (fun (y0 : List SCall) => K (.exit 2) (stOf (T := T) [6] [48, 3000002] [.one (.ptr 48 0 0)] [.var [.own 3000002 55 false], .arr 55 false] ((), ()) (((), ()), y0, ()))) (fun z0 z1 => J (z0, z1)) c.1 c.2.1 x.1 x.2 c.2.2
def impl_BerthAll_13_sp (n : Nat) : LSpec T := mkSpec T ⟨[((.reg 38), 3000003, 3), ((.cell 48 0), 3000002, 55)], [0, 6, 38, 39, 40], [48, 3000002, 3000003]⟩ impl_BerthAll_13_sv impl_BerthAll_13_so (Int × Int × List Int) (Int × List SCall) impl_BerthAll_13_emb impl_BerthAll_13_prj (impl_BerthAll_13_b n)
noncomputable def impl_BerthAll_13_c : Code := ((loopCodes impl_BerthAll_code)[1]?).getD .skip
def impl_BerthAll_ann : Ann := fun id => bif Nat.beq id 3000006 then some ⟨[((.reg 7), 3000000, 3), ((.cell 48 0), 3000002, 55)], [0, 6, 7], [48, 3000002, 3000000]⟩ else bif Nat.beq id 5000013 then some ⟨[((.cell 48 0), 3000002, 55)], [6], [48, 3000002]⟩ else none
def impl_BerthAll_Ls (n : Nat) : Nat → Option (LSpec T) := fun id => bif Nat.beq id 6 then some (impl_BerthAll_6_sp n) else bif Nat.beq id 13 then some (impl_BerthAll_13_sp n) else none
theorem impl_BerthAll_6_le (n : Nat) : LoopEq (T := T) (Phi n 39) (impl_BerthAll_Ls n) impl_BerthAll_ann n impl_BerthAll_6_c (impl_BerthAll_6_sp n) := ⟨mkSpec_dec (fun y => rfl), fun c x => by kernel_rfl, fun K J c x => by kernel_rfl⟩
theorem impl_BerthAll_13_le (n : Nat) : LoopEq (T := T) (Phi n 39) (impl_BerthAll_Ls n) impl_BerthAll_ann n impl_BerthAll_13_c (impl_BerthAll_13_sp n) := ⟨mkSpec_dec (fun y => rfl), fun c x => by kernel_rfl, fun K J c x => by kernel_rfl⟩
theorem impl_BerthAll_tie (n : Nat) (long0 : Int) (calls1 : List SCall) : evF (T := T) (Phi n 39) (impl_BerthAll_Ls n) impl_BerthAll_ann n Try.f29 (sg 29) [vA T 3 long0, vA T 44 calls1] impl_BerthAll_dec = impl_BerthAll n long0 calls1 := by kernel_rfl
theorem impl_BerthAll_lo (n : Nat) : LoopsOk (T := T) (Phi n 39) (impl_BerthAll_Ls n) impl_BerthAll_ann n impl_BerthAll_code := loopsOk_all (cs := [impl_BerthAll_6_c, impl_BerthAll_13_c]) (by kernel_rfl) ⟨⟨_, by kernel_rfl, impl_BerthAll_6_le n⟩, ⟨_, by kernel_rfl, impl_BerthAll_13_le n⟩, trivial⟩
theorem impl_BerthAll_ok (n : Nat) : EntOk Try.prog (ents n) (impl_BerthAll_ent n) := by
  intro hs ar y hg h
  replace h : impl_BerthAll_D n ar = some y := h
  unfold impl_BerthAll_D at h
  replace h := ocons_some h
  obtain ⟨a0, r0, rfl, h⟩ := h
  replace h := ocons_some h
  obtain ⟨a1, r1, rfl, h⟩ := h
  replace h := onil_some h
  obtain ⟨rfl, h⟩ := h
  obtain ⟨long0, qh0, h⟩ := obind_some h
  obtain ⟨calls1, qh1, h⟩ := obind_some h
  rw [argV_eq ok qh0, argV_eq ok qh1]
  exact call_of (phiE_nat _ _) hs ok mixed Try.func29 (c := impl_BerthAll_code) (by kernel_rfl) (impl_BerthAll_lo n) (by kernel_rfl) (by kernel_rfl) (by kernel_rfl) impl_BerthAll_de ((impl_BerthAll_tie n long0 calls1).trans h)
noncomputable def impl_Bound17_code : Code := match Try.f37.body with | some c => c | none => .skip
def impl_Bound17_5_sv : List Sv := [.one (.arr 55), .one (.int .i64), .one (.arr 55), .one (.int .i64), .one (.int .i64)]
def impl_Bound17_5_so : List So := []
def impl_Bound17_5_emb (c : List SCall × List SCall × Int) (x : Int × Int) : EVs T impl_Bound17_5_sv × EOs T impl_Bound17_5_so := ((c.1, x.1, c.2.1, c.2.2, x.2, ()), ())
def impl_Bound17_5_prj (y : EVs T impl_Bound17_5_sv × EOs T impl_Bound17_5_so) : (List SCall × List SCall × Int) × (Int × Int) := ((y.1.1, y.1.2.2.1, y.1.2.2.2.1), (y.1.2.1, y.1.2.2.2.2.1))
def impl_Bound17_5_b (n : Nat) {R : Type} (K : Ex → Sm.St T → Option R) (c : List SCall × List SCall × Int) (x : Int × Int) (J : (Int × Int) → Option R) : Option R :=
  impl_Bound17_L5 n (fun (y0 : Int) => K (.exit 0) (stOf (T := T) [6] [] [.one (.int .i64)] [] (y0, ()) ())) (fun z0 z1 => J (z0, z1)) c.1 x.1 c.2.1 c.2.2 x.2
def impl_Bound17_5_sp (n : Nat) : LSpec T := mkSpec T ⟨[], [1, 6, 16, 17, 18], []⟩ impl_Bound17_5_sv impl_Bound17_5_so (List SCall × List SCall × Int) (Int × Int) impl_Bound17_5_emb impl_Bound17_5_prj (impl_Bound17_5_b n)
noncomputable def impl_Bound17_5_c : Code := ((loopCodes impl_Bound17_code)[0]?).getD .skip
def impl_Bound17_9_sv : List Sv := [.one (.arr 55), .one (.int .i64), .one (.ptr 64 0 0), .one (.int .i64), .one (.arr 55), .one (.int .i64), .one (.int .i64), .one (.arr 55), .one (.int .i64), .one (.int .i64)]
def impl_Bound17_9_so : List So := [.var [.int .i64, .int .i64, .int .i64, .int .i64, .int .i64]]
def impl_Bound17_9_emb (c : List SCall × Int × List SCall × Int × Int × List SCall × Int × SCall) (x : Int × Int) : EVs T impl_Bound17_9_sv × EOs T impl_Bound17_9_so := ((c.1, c.2.1, (), x.1, c.2.2.1, c.2.2.2.1, c.2.2.2.2.1, c.2.2.2.2.2.1, c.2.2.2.2.2.2.1, x.2, ()), ((c.2.2.2.2.2.2.2.Id, c.2.2.2.2.2.2.2.Long, c.2.2.2.2.2.2.2.From, c.2.2.2.2.2.2.2.To, c.2.2.2.2.2.2.2.At, ()), ()))
def impl_Bound17_9_prj (y : EVs T impl_Bound17_9_sv × EOs T impl_Bound17_9_so) : (List SCall × Int × List SCall × Int × Int × List SCall × Int × SCall) × (Int × Int) := ((y.1.1, y.1.2.1, y.1.2.2.2.2.1, y.1.2.2.2.2.2.1, y.1.2.2.2.2.2.2.1, y.1.2.2.2.2.2.2.2.1, y.1.2.2.2.2.2.2.2.2.1, ((⟨y.2.1.1, y.2.1.2.1, y.2.1.2.2.1, y.2.1.2.2.2.1, y.2.1.2.2.2.2.1⟩ : SCall) : SCall)), (y.1.2.2.2.1, y.1.2.2.2.2.2.2.2.2.2.1))
def impl_Bound17_9_b (n : Nat) {R : Type} (K : Ex → Sm.St T → Option R) (c : List SCall × Int × List SCall × Int × Int × List SCall × Int × SCall) (x : Int × Int) (J : (Int × Int) → Option R) : Option R :=
  impl_Bound17_L9 n (fun (y2 : Int) => K (.exit 2) (stOf (T := T) [1, 6, 9, 16, 17, 18] [] [.one (.arr 55), .one (.int .i64), .one (.int .i64), .one (.arr 55), .one (.int .i64), .one (.int .i64)] [] (c.1, c.2.1, y2, c.2.2.1, c.2.2.2.1, c.2.2.2.2.1, ()) ())) (fun z0 z1 => J (z0, z1)) c.1 c.2.1 x.1 c.2.2.1 c.2.2.2.1 c.2.2.2.2.1 c.2.2.2.2.2.1 c.2.2.2.2.2.2.1 x.2 c.2.2.2.2.2.2.2
def impl_Bound17_9_sp (n : Nat) : LSpec T := mkSpec T ⟨[], [1, 6, 8, 9, 16, 17, 18, 22, 23, 24], [64]⟩ impl_Bound17_9_sv impl_Bound17_9_so (List SCall × Int × List SCall × Int × Int × List SCall × Int × SCall) (Int × Int) impl_Bound17_9_emb impl_Bound17_9_prj (impl_Bound17_9_b n)
noncomputable def impl_Bound17_9_c : Code := ((loopCodes impl_Bound17_code)[1]?).getD .skip
def impl_Bound17_ann : Ann := fun id => bif Nat.beq id 3000005 then some ⟨[], [6], []⟩ else bif Nat.beq id 5000009 then some ⟨[], [1, 6, 9, 16, 17, 18], []⟩ else none
def impl_Bound17_Ls (n : Nat) : Nat → Option (LSpec T) := fun id => bif Nat.beq id 5 then some (impl_Bound17_5_sp n) else bif Nat.beq id 9 then some (impl_Bound17_9_sp n) else none
theorem impl_Bound17_5_le (n : Nat) : LoopEq (T := T) (Phi n 40) (impl_Bound17_Ls n) impl_Bound17_ann n impl_Bound17_5_c (impl_Bound17_5_sp n) := ⟨mkSpec_dec (fun y => rfl), fun c x => by kernel_rfl, fun K J c x => by kernel_rfl⟩
theorem impl_Bound17_9_le (n : Nat) : LoopEq (T := T) (Phi n 40) (impl_Bound17_Ls n) impl_Bound17_ann n impl_Bound17_9_c (impl_Bound17_9_sp n) := ⟨mkSpec_dec (fun y => rfl), fun c x => by kernel_rfl, fun K J c x => by kernel_rfl⟩
theorem impl_Bound17_tie (n : Nat) (long0 : Int) (calls1 : List SCall) : evF (T := T) (Phi n 40) (impl_Bound17_Ls n) impl_Bound17_ann n Try.f37 (sg 37) [vA T 3 long0, vA T 44 calls1] impl_Bound17_dec = impl_Bound17 n long0 calls1 := by kernel_rfl
theorem impl_Bound17_lo (n : Nat) : LoopsOk (T := T) (Phi n 40) (impl_Bound17_Ls n) impl_Bound17_ann n impl_Bound17_code := loopsOk_all (cs := [impl_Bound17_5_c, impl_Bound17_9_c]) (by kernel_rfl) ⟨⟨_, by kernel_rfl, impl_Bound17_5_le n⟩, ⟨_, by kernel_rfl, impl_Bound17_9_le n⟩, trivial⟩
theorem impl_Bound17_ok (n : Nat) : EntOk Try.prog (ents n) (impl_Bound17_ent n) := by
  intro hs ar y hg h
  replace h : impl_Bound17_D n ar = some y := h
  unfold impl_Bound17_D at h
  replace h := ocons_some h
  obtain ⟨a0, r0, rfl, h⟩ := h
  replace h := ocons_some h
  obtain ⟨a1, r1, rfl, h⟩ := h
  replace h := onil_some h
  obtain ⟨rfl, h⟩ := h
  obtain ⟨long0, qh0, h⟩ := obind_some h
  obtain ⟨calls1, qh1, h⟩ := obind_some h
  rw [argV_eq ok qh0, argV_eq ok qh1]
  exact call_of (phiE_nat _ _) hs ok mixed Try.func37 (c := impl_Bound17_code) (by kernel_rfl) (impl_Bound17_lo n) (by kernel_rfl) (by kernel_rfl) (by kernel_rfl) impl_Bound17_de ((impl_Bound17_tie n long0 calls1).trans h)
noncomputable def laws_FnBerths_code : Code := match Try.f6.body with | some c => c | none => .skip
def laws_FnBerths_8_sv : List Sv := [.one (.int .i64), .one (.own 3000000 55 false), .one (.own 3000001 55 false), .one (.int .i64)]
def laws_FnBerths_8_so : List So := [.arr 55 false, .arr 55 false]
def laws_FnBerths_8_emb (c : Int × List SCall × List SCall) (x : Int) : EVs T laws_FnBerths_8_sv × EOs T laws_FnBerths_8_so := ((c.1, (), (), x, ()), (c.2.1, c.2.2, ()))
def laws_FnBerths_8_prj (y : EVs T laws_FnBerths_8_sv × EOs T laws_FnBerths_8_so) : (Int × List SCall × List SCall) × Int := ((y.1.1, y.2.1, y.2.2.1), (y.1.2.2.2.1))
def laws_FnBerths_8_b (n : Nat) {R : Type} (K : Ex → Sm.St T → Option R) (c : Int × List SCall × List SCall) (x : Int) (J : Int → Option R) : Option R :=
  laws_FnBerths_L8 n (K (.exit 0) (stOf (T := T) [3, 4] [3000000] [.one (.int .i64), .one (.own 3000000 55 false)] [.arr 55 false] (c.1, (), ()) (c.2.1, ()))) (fun (y0 : Bool) => K .ret (stOf (T := T) [2] [] [.one (.bool)] [] (y0, ()) ())) J c.1 x c.2.1 c.2.2
def laws_FnBerths_8_sp (n : Nat) : LSpec T := mkSpec T ⟨[((.reg 4), 3000000, 55), ((.reg 5), 3000001, 55)], [3, 4, 5, 7], [3000000, 3000001]⟩ laws_FnBerths_8_sv laws_FnBerths_8_so (Int × List SCall × List SCall) (Int) laws_FnBerths_8_emb laws_FnBerths_8_prj (laws_FnBerths_8_b n)
noncomputable def laws_FnBerths_8_c : Code := ((loopCodes laws_FnBerths_code)[0]?).getD .skip
def laws_FnBerths_17_sv : List Sv := [.one (.own 3000000 55 false), .one (.int .i64), .one (.bool), .one (.int .i64)]
def laws_FnBerths_17_so : List So := [.arr 55 false]
def laws_FnBerths_17_emb (c : Int × Bool × List SCall) (x : Int) : EVs T laws_FnBerths_17_sv × EOs T laws_FnBerths_17_so := (((), c.1, c.2.1, x, ()), (c.2.2, ()))
def laws_FnBerths_17_prj (y : EVs T laws_FnBerths_17_sv × EOs T laws_FnBerths_17_so) : (Int × Bool × List SCall) × Int := ((y.1.2.1, y.1.2.2.1, y.2.1), (y.1.2.2.2.1))
def laws_FnBerths_17_b (n : Nat) {R : Type} (K : Ex → Sm.St T → Option R) (c : Int × Bool × List SCall) (x : Int) (J : Int → Option R) : Option R :=
  laws_FnBerths_L17 n (K (.exit 2) (stOf (T := T) [11] [] [.one (.bool)] [] (c.2.1, ()) ())) (fun (y0 : Bool) => K .ret (stOf (T := T) [2] [] [.one (.bool)] [] (y0, ()) ())) J c.1 c.2.1 x c.2.2
def laws_FnBerths_17_sp (n : Nat) : LSpec T := mkSpec T ⟨[((.reg 4), 3000000, 55)], [4, 10, 11, 12], [3000000]⟩ laws_FnBerths_17_sv laws_FnBerths_17_so (Int × Bool × List SCall) (Int) laws_FnBerths_17_emb laws_FnBerths_17_prj (laws_FnBerths_17_b n)
noncomputable def laws_FnBerths_17_c : Code := ((loopCodes laws_FnBerths_code)[1]?).getD .skip
def laws_FnBerths_ann : Ann := fun id => bif Nat.beq id 3000008 then some ⟨[((.reg 4), 3000000, 55)], [3, 4], [3000000]⟩ else bif Nat.beq id 2000008 then some ⟨[], [2], []⟩ else bif Nat.beq id 5000017 then some ⟨[], [11], []⟩ else bif Nat.beq id 2000017 then some ⟨[], [2], []⟩ else none
def laws_FnBerths_Ls (n : Nat) : Nat → Option (LSpec T) := fun id => bif Nat.beq id 8 then some (laws_FnBerths_8_sp n) else bif Nat.beq id 17 then some (laws_FnBerths_17_sp n) else none
theorem laws_FnBerths_8_le (n : Nat) : LoopEq (T := T) (Phi n 41) (laws_FnBerths_Ls n) laws_FnBerths_ann n laws_FnBerths_8_c (laws_FnBerths_8_sp n) := ⟨mkSpec_dec (fun y => rfl), fun c x => by kernel_rfl, fun K J c x => by kernel_rfl⟩
theorem laws_FnBerths_17_le (n : Nat) : LoopEq (T := T) (Phi n 41) (laws_FnBerths_Ls n) laws_FnBerths_ann n laws_FnBerths_17_c (laws_FnBerths_17_sp n) := ⟨mkSpec_dec (fun y => rfl), fun c x => by kernel_rfl, fun K J c x => by kernel_rfl⟩
theorem laws_FnBerths_tie (n : Nat) (code0 : List Int) : evF (T := T) (Phi n 41) (laws_FnBerths_Ls n) laws_FnBerths_ann n Try.f6 (sg 6) [vA T 34 code0] laws_FnBerths_dec = laws_FnBerths n code0 := by kernel_rfl
theorem laws_FnBerths_lo (n : Nat) : LoopsOk (T := T) (Phi n 41) (laws_FnBerths_Ls n) laws_FnBerths_ann n laws_FnBerths_code := loopsOk_all (cs := [laws_FnBerths_8_c, laws_FnBerths_17_c]) (by kernel_rfl) ⟨⟨_, by kernel_rfl, laws_FnBerths_8_le n⟩, ⟨_, by kernel_rfl, laws_FnBerths_17_le n⟩, trivial⟩
theorem laws_FnBerths_ok (n : Nat) : EntOk Try.prog (ents n) (laws_FnBerths_ent n) := by
  intro hs ar y hg h
  replace h : laws_FnBerths_D n ar = some y := h
  unfold laws_FnBerths_D at h
  replace h := ocons_some h
  obtain ⟨a0, r0, rfl, h⟩ := h
  replace h := onil_some h
  obtain ⟨rfl, h⟩ := h
  obtain ⟨code0, qh0, h⟩ := obind_some h
  rw [argV_eq ok qh0]
  exact call_of (phiE_nat _ _) hs ok mixed Try.func6 (c := laws_FnBerths_code) (by kernel_rfl) (laws_FnBerths_lo n) (by kernel_rfl) (by kernel_rfl) (by kernel_rfl) laws_FnBerths_de ((laws_FnBerths_tie n code0).trans h)
theorem entsOk (n : Nat) : EntsOk Try.prog (ents n) (ents n) := ⟨laws_big_ok n, spec_l1New_ok n, spec_l1Byte_ok n, spec_l1Below_ok n, spec_l1Once_ok n, spec_l17Meet_ok n, spec_l1In_ok n, spec_l1Minute_ok n, spec_CallsOk_ok n, spec_Clear17_ok n, spec_Berth_ok n, spec_l17DrawCalls_ok n, spec_DrawQuay_ok n, impl_in_ok n, impl_idRight_ok n, impl_minuteOk_ok n, impl_callOk_ok n, impl_CallsOk_ok n, impl_shares_ok n, impl_Clear17_1_ok n, slices_IndexFunc_impl_Call_impl_Call__impl_Clear17_1_ok n, slices_ContainsFunc_impl_Call_impl_Call__impl_Clear17_1_ok n, impl_Clear17_ok n, impl_own_impl_Call_ok n, cmp_isNaN_int_ok n, cmp_Compare_int_ok n, impl_BerthAll_1_ok n, slices_insertionSortCmpFunc_int__impl_BerthAll_1_ok n, slices_swapRangeCmpFunc_int__impl_BerthAll_1_ok n, slices_rotateCmpFunc_int__impl_BerthAll_1_ok n, slices_symMergeCmpFunc_int__impl_BerthAll_1_ok n, slices_stableCmpFunc_int__impl_BerthAll_1_ok n, slices_SortStableFunc_int_int__impl_BerthAll_1_ok n, impl_Berth_1_ok n, slices_IndexFunc_impl_Call_impl_Call__impl_Berth_1_ok n, impl_Berth_2_ok n, slices_IndexFunc_impl_Call_impl_Call__impl_Berth_2_ok n, slices_ContainsFunc_impl_Call_impl_Call__impl_Berth_2_ok n, impl_Berth_ok n, impl_BerthAll_ok n, impl_Bound17_ok n, laws_FnBerths_ok n, trivial⟩
theorem sem (n i : Nat) : SemOk (Phi n i) (CallOk Try.prog T) := phiE_ok (entsOk n) i
end Go.Sm.E6
