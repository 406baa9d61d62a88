import Derived.Test.YtmefinakmgnbpaaF3Tb
import Derived.KernelRfl
/- Each function's code computes what the plain function computes. -/
set_option linter.unusedSimpArgs false
set_option linter.deprecated false
set_option linter.unusedSectionVars false
set_option linter.unusedVariables false
set_option maxRecDepth 100000
open Go Go.Proofs
noncomputable section
namespace Go.Sm.F3
/-- By recursors, and of a greater height than all of the functions: the kernel takes these apart first. -/
def obind {α β : Type} (o : Option α) (f : α → Option β) : Option β := let _ := @laws_FnKept; Option.rec (motive := fun _ => Option β) none (fun a => f a) o
theorem obind_some {α β : Type} {o : Option α} {f : α → Option β} {y : β} (h : obind o f = some y) : ∃ a, o = some a ∧ f a = some y := by
  cases o with
  | none => cases h
  | some a => exact ⟨a, rfl, h⟩
def ocons {β : Type} (l : List (A T)) (f : A T → List (A T) → Option β) : Option β := let _ := @laws_FnKept; List.rec (motive := fun _ => Option β) none (fun a r _ => f a r) l
theorem ocons_some {β : Type} {l : List (A T)} {f : A T → List (A T) → Option β} {y : β} (h : ocons l f = some y) : ∃ a r, l = a :: r ∧ f a r = some y := by
  cases l with
  | nil => cases h
  | cons a r => exact ⟨a, r, rfl, h⟩
def onil {β : Type} (l : List (A T)) (x : Option β) : Option β := let _ := @laws_FnKept; List.rec (motive := fun _ => Option β) x (fun _ _ _ => none) l
theorem onil_some {β : Type} {l : List (A T)} {x : Option β} {y : β} (h : onil l x = some y) : l = [] ∧ x = some y := by
  cases l with
  | nil => exact ⟨rfl, h⟩
  | cons a r => cases h
def laws_big_dec (res : Res T) : Option Bool := match res.rets, res.outs with
  | [a0], [] => (retV (T := T) 4 a0).bind fun r0 => some (r0)
  | _, _ => none
def laws_big_enc (y : Bool) : Res T := ⟨[vR T 4 y], []⟩
theorem laws_big_de (res : Res T) (y : Bool) (h : laws_big_dec res = some y) : res = laws_big_enc y := by
  obtain ⟨rets, outs⟩ := res
  unfold laws_big_dec at h
  dsimp only at h
  split at h
  · obtain ⟨r0, h0, h⟩ := Option.bind_eq_some_iff.1 h
    cases h
    rw [retV_eq ok h0]
    rfl
  · cases h
def spec_l1New_dec (res : Res T) : Option Sl1Cur := match res.rets, res.outs with
  | [a0], [] => (retP (T := T) 120 a0).bind fun r0 => some (r0)
  | _, _ => none
def spec_l1New_enc (y : Sl1Cur) : Res T := ⟨[.ptr 120 y], []⟩
theorem spec_l1New_de (res : Res T) (y : Sl1Cur) (h : spec_l1New_dec res = some y) : res = spec_l1New_enc y := by
  obtain ⟨rets, outs⟩ := res
  unfold spec_l1New_dec at h
  dsimp only at h
  split at h
  · obtain ⟨r0, h0, h⟩ := Option.bind_eq_some_iff.1 h
    cases h
    rw [retP_eq h0]
    rfl
  · cases h
def spec_l1Byte_dec (res : Res T) : Option (Int × Sl1Cur) := match res.rets, res.outs with
  | [a0], [b0] => (retV (T := T) 3 a0).bind fun r0 => (outV (T := T) 120 b0).bind fun r1 => some (r0, r1)
  | _, _ => none
def spec_l1Byte_enc (y : Int × Sl1Cur) : Res T := ⟨[vR T 3 y.1], [.var 120 y.2]⟩
theorem spec_l1Byte_de (res : Res T) (y : Int × Sl1Cur) (h : spec_l1Byte_dec res = some y) : res = spec_l1Byte_enc y := by
  obtain ⟨rets, outs⟩ := res
  unfold spec_l1Byte_dec at h
  dsimp only at h
  split at h
  · obtain ⟨r0, h0, h⟩ := Option.bind_eq_some_iff.1 h
    obtain ⟨r1, h1, h⟩ := Option.bind_eq_some_iff.1 h
    cases h
    rw [retV_eq ok h0, outV_eq h1]
    rfl
  · cases h
def spec_l1Below_dec (res : Res T) : Option (Int × Sl1Cur) := match res.rets, res.outs with
  | [a0], [b0] => (retV (T := T) 3 a0).bind fun r0 => (outV (T := T) 120 b0).bind fun r1 => some (r0, r1)
  | _, _ => none
def spec_l1Below_enc (y : Int × Sl1Cur) : Res T := ⟨[vR T 3 y.1], [.var 120 y.2]⟩
theorem spec_l1Below_de (res : Res T) (y : Int × Sl1Cur) (h : spec_l1Below_dec res = some y) : res = spec_l1Below_enc y := by
  obtain ⟨rets, outs⟩ := res
  unfold spec_l1Below_dec at h
  dsimp only at h
  split at h
  · obtain ⟨r0, h0, h⟩ := Option.bind_eq_some_iff.1 h
    obtain ⟨r1, h1, h⟩ := Option.bind_eq_some_iff.1 h
    cases h
    rw [retV_eq ok h0, outV_eq h1]
    rfl
  · cases h
def spec_l18Draw_dec (res : Res T) : Option (SYard × Sl1Cur) := match res.rets, res.outs with
  | [a0], [b0] => (retV (T := T) 26 a0).bind fun r0 => (outV (T := T) 120 b0).bind fun r1 => some (r0, r1)
  | _, _ => none
def spec_l18Draw_enc (y : SYard × Sl1Cur) : Res T := ⟨[vR T 26 y.1], [.var 120 y.2]⟩
theorem spec_l18Draw_de (res : Res T) (y : SYard × Sl1Cur) (h : spec_l18Draw_dec res = some y) : res = spec_l18Draw_enc y := by
  obtain ⟨rets, outs⟩ := res
  unfold spec_l18Draw_dec at h
  dsimp only at h
  split at h
  · obtain ⟨r0, h0, h⟩ := Option.bind_eq_some_iff.1 h
    obtain ⟨r1, h1, h⟩ := Option.bind_eq_some_iff.1 h
    cases h
    rw [retV_eq ok h0, outV_eq h1]
    rfl
  · cases h
def spec_l1PickInt_dec (res : Res T) : Option (Int × Sl1Cur) := match res.rets, res.outs with
  | [a0], [b0] => (retV (T := T) 3 a0).bind fun r0 => (outV (T := T) 120 b0).bind fun r1 => some (r0, r1)
  | _, _ => none
def spec_l1PickInt_enc (y : Int × Sl1Cur) : Res T := ⟨[vR T 3 y.1], [.var 120 y.2]⟩
theorem spec_l1PickInt_de (res : Res T) (y : Int × Sl1Cur) (h : spec_l1PickInt_dec res = some y) : res = spec_l1PickInt_enc y := by
  obtain ⟨rets, outs⟩ := res
  unfold spec_l1PickInt_dec at h
  dsimp only at h
  split at h
  · obtain ⟨r0, h0, h⟩ := Option.bind_eq_some_iff.1 h
    obtain ⟨r1, h1, h⟩ := Option.bind_eq_some_iff.1 h
    cases h
    rw [retV_eq ok h0, outV_eq h1]
    rfl
  · cases h
def spec_l18DrawOp_dec (res : Res T) : Option (SYardOp × Sl1Cur) := match res.rets, res.outs with
  | [a0], [b0] => (retV (T := T) 75 a0).bind fun r0 => (outV (T := T) 120 b0).bind fun r1 => some (r0, r1)
  | _, _ => none
def spec_l18DrawOp_enc (y : SYardOp × Sl1Cur) : Res T := ⟨[vR T 75 y.1], [.var 120 y.2]⟩
theorem spec_l18DrawOp_de (res : Res T) (y : SYardOp × Sl1Cur) (h : spec_l18DrawOp_dec res = some y) : res = spec_l18DrawOp_enc y := by
  obtain ⟨rets, outs⟩ := res
  unfold spec_l18DrawOp_dec at h
  dsimp only at h
  split at h
  · obtain ⟨r0, h0, h⟩ := Option.bind_eq_some_iff.1 h
    obtain ⟨r1, h1, h⟩ := Option.bind_eq_some_iff.1 h
    cases h
    rw [retV_eq ok h0, outV_eq h1]
    rfl
  · cases h
def spec_DrawYard_dec (res : Res T) : Option (SYard × List SYardOp) := match res.rets, res.outs with
  | [a0, a1], [] => (retV (T := T) 26 a0).bind fun r0 => (retV (T := T) 27 a1).bind fun r1 => some (r0, r1)
  | _, _ => none
def spec_DrawYard_enc (y : SYard × List SYardOp) : Res T := ⟨[vR T 26 y.1, vR T 27 y.2], []⟩
theorem spec_DrawYard_de (res : Res T) (y : SYard × List SYardOp) (h : spec_DrawYard_dec res = some y) : res = spec_DrawYard_enc y := by
  obtain ⟨rets, outs⟩ := res
  unfold spec_DrawYard_dec at h
  dsimp only at h
  split at h
  · obtain ⟨r0, h0, h⟩ := Option.bind_eq_some_iff.1 h
    obtain ⟨r1, h1, h⟩ := Option.bind_eq_some_iff.1 h
    cases h
    rw [retV_eq ok h0, retV_eq ok h1]
    rfl
  · cases h
def impl_own_int_dec (res : Res T) : Option (List (List Int)) := match res.rets, res.outs with
  | [a0], [] => (retV (T := T) 24 a0).bind fun r0 => some (r0)
  | _, _ => none
def impl_own_int_enc (y : List (List Int)) : Res T := ⟨[vR T 24 y], []⟩
theorem impl_own_int_de (res : Res T) (y : List (List Int)) (h : impl_own_int_dec res = some y) : res = impl_own_int_enc y := by
  obtain ⟨rets, outs⟩ := res
  unfold impl_own_int_dec at h
  dsimp only at h
  split at h
  · obtain ⟨r0, h0, h⟩ := Option.bind_eq_some_iff.1 h
    cases h
    rw [retV_eq ok h0]
    rfl
  · cases h
def impl_own_int_f34_dec (res : Res T) : Option (List Int) := match res.rets, res.outs with
  | [a0], [] => (retV (T := T) 30 a0).bind fun r0 => some (r0)
  | _, _ => none
def impl_own_int_f34_enc (y : List Int) : Res T := ⟨[vR T 30 y], []⟩
theorem impl_own_int_f34_de (res : Res T) (y : List Int) (h : impl_own_int_f34_dec res = some y) : res = impl_own_int_f34_enc y := by
  obtain ⟨rets, outs⟩ := res
  unfold impl_own_int_f34_dec at h
  dsimp only at h
  split at h
  · obtain ⟨r0, h0, h⟩ := Option.bind_eq_some_iff.1 h
    cases h
    rw [retV_eq ok h0]
    rfl
  · cases h
def impl_Yard_own_dec (res : Res T) : Option SYard := match res.rets, res.outs with
  | [a0], [] => (retV (T := T) 26 a0).bind fun r0 => some (r0)
  | _, _ => none
def impl_Yard_own_enc (y : SYard) : Res T := ⟨[vR T 26 y], []⟩
theorem impl_Yard_own_de (res : Res T) (y : SYard) (h : impl_Yard_own_dec res = some y) : res = impl_Yard_own_enc y := by
  obtain ⟨rets, outs⟩ := res
  unfold impl_Yard_own_dec at h
  dsimp only at h
  split at h
  · obtain ⟨r0, h0, h⟩ := Option.bind_eq_some_iff.1 h
    cases h
    rw [retV_eq ok h0]
    rfl
  · cases h
def impl_in_dec (res : Res T) : Option Bool := match res.rets, res.outs with
  | [a0], [] => (retV (T := T) 4 a0).bind fun r0 => some (r0)
  | _, _ => none
def impl_in_enc (y : Bool) : Res T := ⟨[vR T 4 y], []⟩
theorem impl_in_de (res : Res T) (y : Bool) (h : impl_in_dec res = some y) : res = impl_in_enc y := by
  obtain ⟨rets, outs⟩ := res
  unfold impl_in_dec at h
  dsimp only at h
  split at h
  · obtain ⟨r0, h0, h⟩ := Option.bind_eq_some_iff.1 h
    cases h
    rw [retV_eq ok h0]
    rfl
  · cases h
def impl_idRight_dec (res : Res T) : Option Bool := match res.rets, res.outs with
  | [a0], [] => (retV (T := T) 4 a0).bind fun r0 => some (r0)
  | _, _ => none
def impl_idRight_enc (y : Bool) : Res T := ⟨[vR T 4 y], []⟩
theorem impl_idRight_de (res : Res T) (y : Bool) (h : impl_idRight_dec res = some y) : res = impl_idRight_enc y := by
  obtain ⟨rets, outs⟩ := res
  unfold impl_idRight_dec at h
  dsimp only at h
  split at h
  · obtain ⟨r0, h0, h⟩ := Option.bind_eq_some_iff.1 h
    cases h
    rw [retV_eq ok h0]
    rfl
  · cases h
def impl_YardOk_dec (res : Res T) : Option Bool := match res.rets, res.outs with
  | [a0], [] => (retV (T := T) 4 a0).bind fun r0 => some (r0)
  | _, _ => none
def impl_YardOk_enc (y : Bool) : Res T := ⟨[vR T 4 y], []⟩
theorem impl_YardOk_de (res : Res T) (y : Bool) (h : impl_YardOk_dec res = some y) : res = impl_YardOk_enc y := by
  obtain ⟨rets, outs⟩ := res
  unfold impl_YardOk_dec at h
  dsimp only at h
  split at h
  · obtain ⟨r0, h0, h⟩ := Option.bind_eq_some_iff.1 h
    cases h
    rw [retV_eq ok h0]
    rfl
  · cases h
def slices_Index_int_int_dec (res : Res T) : Option Int := match res.rets, res.outs with
  | [a0], [] => (retV (T := T) 3 a0).bind fun r0 => some (r0)
  | _, _ => none
def slices_Index_int_int_enc (y : Int) : Res T := ⟨[vR T 3 y], []⟩
theorem slices_Index_int_int_de (res : Res T) (y : Int) (h : slices_Index_int_int_dec res = some y) : res = slices_Index_int_int_enc y := by
  obtain ⟨rets, outs⟩ := res
  unfold slices_Index_int_int_dec at h
  dsimp only at h
  split at h
  · obtain ⟨r0, h0, h⟩ := Option.bind_eq_some_iff.1 h
    cases h
    rw [retV_eq ok h0]
    rfl
  · cases h
def impl_FindBox_dec (res : Res T) : Option (Int × Int × Bool) := match res.rets, res.outs with
  | [a0, a1, a2], [] => (retV (T := T) 3 a0).bind fun r0 => (retV (T := T) 3 a1).bind fun r1 => (retV (T := T) 4 a2).bind fun r2 => some (r0, r1, r2)
  | _, _ => none
def impl_FindBox_enc (y : Int × Int × Bool) : Res T := ⟨[vR T 3 y.1, vR T 3 y.2.1, vR T 4 y.2.2], []⟩
theorem impl_FindBox_de (res : Res T) (y : Int × Int × Bool) (h : impl_FindBox_dec res = some y) : res = impl_FindBox_enc y := by
  obtain ⟨rets, outs⟩ := res
  unfold impl_FindBox_dec at h
  dsimp only at h
  split at h
  · obtain ⟨r0, h0, h⟩ := Option.bind_eq_some_iff.1 h
    obtain ⟨r1, h1, h⟩ := Option.bind_eq_some_iff.1 h
    obtain ⟨r2, h2, h⟩ := Option.bind_eq_some_iff.1 h
    cases h
    rw [retV_eq ok h0, retV_eq ok h1, retV_eq ok h2]
    rfl
  · cases h
def impl_Yard_lift_dec (res : Res T) : Option (List (List Int)) := match res.rets, res.outs with
  | [], [b0] => (outS (T := T) 30 b0).bind fun r0 => some (r0)
  | _, _ => none
def impl_Yard_lift_enc (y : List (List Int)) : Res T := ⟨[], [.sl 30 y]⟩
theorem impl_Yard_lift_de (res : Res T) (y : List (List Int)) (h : impl_Yard_lift_dec res = some y) : res = impl_Yard_lift_enc y := by
  obtain ⟨rets, outs⟩ := res
  unfold impl_Yard_lift_dec at h
  dsimp only at h
  split at h
  · obtain ⟨r0, h0, h⟩ := Option.bind_eq_some_iff.1 h
    cases h
    rw [outS_eq h0]
    rfl
  · cases h
def impl_DoYard_dec (res : Res T) : Option (SYard × Int × Int) := match res.rets, res.outs with
  | [a0, a1, a2], [] => (retV (T := T) 26 a0).bind fun r0 => (retV (T := T) 3 a1).bind fun r1 => (retV (T := T) 3 a2).bind fun r2 => some (r0, r1, r2)
  | _, _ => none
def impl_DoYard_enc (y : SYard × Int × Int) : Res T := ⟨[vR T 26 y.1, vR T 3 y.2.1, vR T 3 y.2.2], []⟩
theorem impl_DoYard_de (res : Res T) (y : SYard × Int × Int) (h : impl_DoYard_dec res = some y) : res = impl_DoYard_enc y := by
  obtain ⟨rets, outs⟩ := res
  unfold impl_DoYard_dec at h
  dsimp only at h
  split at h
  · obtain ⟨r0, h0, h⟩ := Option.bind_eq_some_iff.1 h
    obtain ⟨r1, h1, h⟩ := Option.bind_eq_some_iff.1 h
    obtain ⟨r2, h2, h⟩ := Option.bind_eq_some_iff.1 h
    cases h
    rw [retV_eq ok h0, retV_eq ok h1, retV_eq ok h2]
    rfl
  · cases h
def impl_RunYard_dec (res : Res T) : Option (SYard × List Int × Int) := match res.rets, res.outs with
  | [a0, a1, a2], [] => (retV (T := T) 26 a0).bind fun r0 => (retV (T := T) 30 a1).bind fun r1 => (retV (T := T) 3 a2).bind fun r2 => some (r0, r1, r2)
  | _, _ => none
def impl_RunYard_enc (y : SYard × List Int × Int) : Res T := ⟨[vR T 26 y.1, vR T 30 y.2.1, vR T 3 y.2.2], []⟩
theorem impl_RunYard_de (res : Res T) (y : SYard × List Int × Int) (h : impl_RunYard_dec res = some y) : res = impl_RunYard_enc y := by
  obtain ⟨rets, outs⟩ := res
  unfold impl_RunYard_dec at h
  dsimp only at h
  split at h
  · obtain ⟨r0, h0, h⟩ := Option.bind_eq_some_iff.1 h
    obtain ⟨r1, h1, h⟩ := Option.bind_eq_some_iff.1 h
    obtain ⟨r2, h2, h⟩ := Option.bind_eq_some_iff.1 h
    cases h
    rw [retV_eq ok h0, retV_eq ok h1, retV_eq ok h2]
    rfl
  · cases h
def spec_l1Once_dec (res : Res T) : Option (Bool × Sl1Cur) := match res.rets, res.outs with
  | [a0], [b0] => (retV (T := T) 4 a0).bind fun r0 => (outV (T := T) 120 b0).bind fun r1 => some (r0, r1)
  | _, _ => none
def spec_l1Once_enc (y : Bool × Sl1Cur) : Res T := ⟨[vR T 4 y.1], [.var 120 y.2]⟩
theorem spec_l1Once_de (res : Res T) (y : Bool × Sl1Cur) (h : spec_l1Once_dec res = some y) : res = spec_l1Once_enc y := by
  obtain ⟨rets, outs⟩ := res
  unfold spec_l1Once_dec at h
  dsimp only at h
  split at h
  · obtain ⟨r0, h0, h⟩ := Option.bind_eq_some_iff.1 h
    obtain ⟨r1, h1, h⟩ := Option.bind_eq_some_iff.1 h
    cases h
    rw [retV_eq ok h0, outV_eq h1]
    rfl
  · cases h
def spec_l9DrawRadios_dec (res : Res T) : Option (List SRadio × Sl1Cur) := match res.rets, res.outs with
  | [a0], [b0] => (retV (T := T) 33 a0).bind fun r0 => (outV (T := T) 120 b0).bind fun r1 => some (r0, r1)
  | _, _ => none
def spec_l9DrawRadios_enc (y : List SRadio × Sl1Cur) : Res T := ⟨[vR T 33 y.1], [.var 120 y.2]⟩
theorem spec_l9DrawRadios_de (res : Res T) (y : List SRadio × Sl1Cur) (h : spec_l9DrawRadios_dec res = some y) : res = spec_l9DrawRadios_enc y := by
  obtain ⟨rets, outs⟩ := res
  unfold spec_l9DrawRadios_dec at h
  dsimp only at h
  split at h
  · obtain ⟨r0, h0, h⟩ := Option.bind_eq_some_iff.1 h
    obtain ⟨r1, h1, h⟩ := Option.bind_eq_some_iff.1 h
    cases h
    rw [retV_eq ok h0, outV_eq h1]
    rfl
  · cases h
def spec_l9DrawCoins_dec (res : Res T) : Option (List Int × Sl1Cur) := match res.rets, res.outs with
  | [a0], [b0] => (retV (T := T) 30 a0).bind fun r0 => (outV (T := T) 120 b0).bind fun r1 => some (r0, r1)
  | _, _ => none
def spec_l9DrawCoins_enc (y : List Int × Sl1Cur) : Res T := ⟨[vR T 30 y.1], [.var 120 y.2]⟩
theorem spec_l9DrawCoins_de (res : Res T) (y : List Int × Sl1Cur) (h : spec_l9DrawCoins_dec res = some y) : res = spec_l9DrawCoins_enc y := by
  obtain ⟨rets, outs⟩ := res
  unfold spec_l9DrawCoins_dec at h
  dsimp only at h
  split at h
  · obtain ⟨r0, h0, h⟩ := Option.bind_eq_some_iff.1 h
    obtain ⟨r1, h1, h⟩ := Option.bind_eq_some_iff.1 h
    cases h
    rw [retV_eq ok h0, outV_eq h1]
    rfl
  · cases h
def spec_DrawQuiet_dec (res : Res T) : Option (List SRadio × List Int) := match res.rets, res.outs with
  | [a0, a1], [] => (retV (T := T) 33 a0).bind fun r0 => (retV (T := T) 30 a1).bind fun r1 => some (r0, r1)
  | _, _ => none
def spec_DrawQuiet_enc (y : List SRadio × List Int) : Res T := ⟨[vR T 33 y.1, vR T 30 y.2], []⟩
theorem spec_DrawQuiet_de (res : Res T) (y : List SRadio × List Int) (h : spec_DrawQuiet_dec res = some y) : res = spec_DrawQuiet_enc y := by
  obtain ⟨rets, outs⟩ := res
  unfold spec_DrawQuiet_dec at h
  dsimp only at h
  split at h
  · obtain ⟨r0, h0, h⟩ := Option.bind_eq_some_iff.1 h
    obtain ⟨r1, h1, h⟩ := Option.bind_eq_some_iff.1 h
    cases h
    rw [retV_eq ok h0, retV_eq ok h1]
    rfl
  · cases h
def impl_idOk_dec (res : Res T) : Option Bool := match res.rets, res.outs with
  | [a0], [] => (retV (T := T) 4 a0).bind fun r0 => some (r0)
  | _, _ => none
def impl_idOk_enc (y : Bool) : Res T := ⟨[vR T 4 y], []⟩
theorem impl_idOk_de (res : Res T) (y : Bool) (h : impl_idOk_dec res = some y) : res = impl_idOk_enc y := by
  obtain ⟨rets, outs⟩ := res
  unfold impl_idOk_dec at h
  dsimp only at h
  split at h
  · obtain ⟨r0, h0, h⟩ := Option.bind_eq_some_iff.1 h
    cases h
    rw [retV_eq ok h0]
    rfl
  · cases h
def impl_slotOk_dec (res : Res T) : Option Bool := match res.rets, res.outs with
  | [a0], [] => (retV (T := T) 4 a0).bind fun r0 => some (r0)
  | _, _ => none
def impl_slotOk_enc (y : Bool) : Res T := ⟨[vR T 4 y], []⟩
theorem impl_slotOk_de (res : Res T) (y : Bool) (h : impl_slotOk_dec res = some y) : res = impl_slotOk_enc y := by
  obtain ⟨rets, outs⟩ := res
  unfold impl_slotOk_dec at h
  dsimp only at h
  split at h
  · obtain ⟨r0, h0, h⟩ := Option.bind_eq_some_iff.1 h
    cases h
    rw [retV_eq ok h0]
    rfl
  · cases h
def slices_Contains_int_int_dec (res : Res T) : Option Bool := match res.rets, res.outs with
  | [a0], [] => (retV (T := T) 4 a0).bind fun r0 => some (r0)
  | _, _ => none
def slices_Contains_int_int_enc (y : Bool) : Res T := ⟨[vR T 4 y], []⟩
theorem slices_Contains_int_int_de (res : Res T) (y : Bool) (h : slices_Contains_int_int_dec res = some y) : res = slices_Contains_int_int_enc y := by
  obtain ⟨rets, outs⟩ := res
  unfold slices_Contains_int_int_dec at h
  dsimp only at h
  split at h
  · obtain ⟨r0, h0, h⟩ := Option.bind_eq_some_iff.1 h
    cases h
    rw [retV_eq ok h0]
    rfl
  · cases h
def impl_RadiosOk_dec (res : Res T) : Option Bool := match res.rets, res.outs with
  | [a0], [] => (retV (T := T) 4 a0).bind fun r0 => some (r0)
  | _, _ => none
def impl_RadiosOk_enc (y : Bool) : Res T := ⟨[vR T 4 y], []⟩
theorem impl_RadiosOk_de (res : Res T) (y : Bool) (h : impl_RadiosOk_dec res = some y) : res = impl_RadiosOk_enc y := by
  obtain ⟨rets, outs⟩ := res
  unfold impl_RadiosOk_dec at h
  dsimp only at h
  split at h
  · obtain ⟨r0, h0, h⟩ := Option.bind_eq_some_iff.1 h
    cases h
    rw [retV_eq ok h0]
    rfl
  · cases h
def impl_Settle_1_dec (res : Res T) : Option Bool := match res.rets, res.outs with
  | [a0], [] => (retV (T := T) 4 a0).bind fun r0 => some (r0)
  | _, _ => none
def impl_Settle_1_enc (y : Bool) : Res T := ⟨[vR T 4 y], []⟩
theorem impl_Settle_1_de (res : Res T) (y : Bool) (h : impl_Settle_1_dec res = some y) : res = impl_Settle_1_enc y := by
  obtain ⟨rets, outs⟩ := res
  unfold impl_Settle_1_dec at h
  dsimp only at h
  split at h
  · obtain ⟨r0, h0, h⟩ := Option.bind_eq_some_iff.1 h
    cases h
    rw [retV_eq ok h0]
    rfl
  · cases h
def slices_IndexFunc_int_int__impl_Settle_1_dec (res : Res T) : Option Int := match res.rets, res.outs with
  | [a0], [] => (retV (T := T) 3 a0).bind fun r0 => some (r0)
  | _, _ => none
def slices_IndexFunc_int_int__impl_Settle_1_enc (y : Int) : Res T := ⟨[vR T 3 y], []⟩
theorem slices_IndexFunc_int_int__impl_Settle_1_de (res : Res T) (y : Int) (h : slices_IndexFunc_int_int__impl_Settle_1_dec res = some y) : res = slices_IndexFunc_int_int__impl_Settle_1_enc y := by
  obtain ⟨rets, outs⟩ := res
  unfold slices_IndexFunc_int_int__impl_Settle_1_dec at h
  dsimp only at h
  split at h
  · obtain ⟨r0, h0, h⟩ := Option.bind_eq_some_iff.1 h
    cases h
    rw [retV_eq ok h0]
    rfl
  · cases h
def slices_ContainsFunc_int_int__impl_Settle_1_dec (res : Res T) : Option Bool := match res.rets, res.outs with
  | [a0], [] => (retV (T := T) 4 a0).bind fun r0 => some (r0)
  | _, _ => none
def slices_ContainsFunc_int_int__impl_Settle_1_enc (y : Bool) : Res T := ⟨[vR T 4 y], []⟩
theorem slices_ContainsFunc_int_int__impl_Settle_1_de (res : Res T) (y : Bool) (h : slices_ContainsFunc_int_int__impl_Settle_1_dec res = some y) : res = slices_ContainsFunc_int_int__impl_Settle_1_enc y := by
  obtain ⟨rets, outs⟩ := res
  unfold slices_ContainsFunc_int_int__impl_Settle_1_dec at h
  dsimp only at h
  split at h
  · obtain ⟨r0, h0, h⟩ := Option.bind_eq_some_iff.1 h
    cases h
    rw [retV_eq ok h0]
    rfl
  · cases h
def impl_own_impl_Radio_dec (res : Res T) : Option (List SRadio) := match res.rets, res.outs with
  | [a0], [] => (retV (T := T) 33 a0).bind fun r0 => some (r0)
  | _, _ => none
def impl_own_impl_Radio_enc (y : List SRadio) : Res T := ⟨[vR T 33 y], []⟩
theorem impl_own_impl_Radio_de (res : Res T) (y : List SRadio) (h : impl_own_impl_Radio_dec res = some y) : res = impl_own_impl_Radio_enc y := by
  obtain ⟨rets, outs⟩ := res
  unfold impl_own_impl_Radio_dec at h
  dsimp only at h
  split at h
  · obtain ⟨r0, h0, h⟩ := Option.bind_eq_some_iff.1 h
    cases h
    rw [retV_eq ok h0]
    rfl
  · cases h
def impl_Clashes_1_dec (res : Res T) : Option Bool := match res.rets, res.outs with
  | [a0], [] => (retV (T := T) 4 a0).bind fun r0 => some (r0)
  | _, _ => none
def impl_Clashes_1_enc (y : Bool) : Res T := ⟨[vR T 4 y], []⟩
theorem impl_Clashes_1_de (res : Res T) (y : Bool) (h : impl_Clashes_1_dec res = some y) : res = impl_Clashes_1_enc y := by
  obtain ⟨rets, outs⟩ := res
  unfold impl_Clashes_1_dec at h
  dsimp only at h
  split at h
  · obtain ⟨r0, h0, h⟩ := Option.bind_eq_some_iff.1 h
    cases h
    rw [retV_eq ok h0]
    rfl
  · cases h
def slices_IndexFunc_int_int__impl_Clashes_1_dec (res : Res T) : Option Int := match res.rets, res.outs with
  | [a0], [] => (retV (T := T) 3 a0).bind fun r0 => some (r0)
  | _, _ => none
def slices_IndexFunc_int_int__impl_Clashes_1_enc (y : Int) : Res T := ⟨[vR T 3 y], []⟩
theorem slices_IndexFunc_int_int__impl_Clashes_1_de (res : Res T) (y : Int) (h : slices_IndexFunc_int_int__impl_Clashes_1_dec res = some y) : res = slices_IndexFunc_int_int__impl_Clashes_1_enc y := by
  obtain ⟨rets, outs⟩ := res
  unfold slices_IndexFunc_int_int__impl_Clashes_1_dec at h
  dsimp only at h
  split at h
  · obtain ⟨r0, h0, h⟩ := Option.bind_eq_some_iff.1 h
    cases h
    rw [retV_eq ok h0]
    rfl
  · cases h
def slices_ContainsFunc_int_int__impl_Clashes_1_dec (res : Res T) : Option Bool := match res.rets, res.outs with
  | [a0], [] => (retV (T := T) 4 a0).bind fun r0 => some (r0)
  | _, _ => none
def slices_ContainsFunc_int_int__impl_Clashes_1_enc (y : Bool) : Res T := ⟨[vR T 4 y], []⟩
theorem slices_ContainsFunc_int_int__impl_Clashes_1_de (res : Res T) (y : Bool) (h : slices_ContainsFunc_int_int__impl_Clashes_1_dec res = some y) : res = slices_ContainsFunc_int_int__impl_Clashes_1_enc y := by
  obtain ⟨rets, outs⟩ := res
  unfold slices_ContainsFunc_int_int__impl_Clashes_1_dec at h
  dsimp only at h
  split at h
  · obtain ⟨r0, h0, h⟩ := Option.bind_eq_some_iff.1 h
    cases h
    rw [retV_eq ok h0]
    rfl
  · cases h
def impl_Clashes_dec (res : Res T) : Option (List Int) := match res.rets, res.outs with
  | [a0], [] => (retV (T := T) 30 a0).bind fun r0 => some (r0)
  | _, _ => none
def impl_Clashes_enc (y : List Int) : Res T := ⟨[vR T 30 y], []⟩
theorem impl_Clashes_de (res : Res T) (y : List Int) (h : impl_Clashes_dec res = some y) : res = impl_Clashes_enc y := by
  obtain ⟨rets, outs⟩ := res
  unfold impl_Clashes_dec at h
  dsimp only at h
  split at h
  · obtain ⟨r0, h0, h⟩ := Option.bind_eq_some_iff.1 h
    cases h
    rw [retV_eq ok h0]
    rfl
  · cases h
def impl_Choose_1_dec (res : Res T) : Option Bool := match res.rets, res.outs with
  | [a0], [] => (retV (T := T) 4 a0).bind fun r0 => some (r0)
  | _, _ => none
def impl_Choose_1_enc (y : Bool) : Res T := ⟨[vR T 4 y], []⟩
theorem impl_Choose_1_de (res : Res T) (y : Bool) (h : impl_Choose_1_dec res = some y) : res = impl_Choose_1_enc y := by
  obtain ⟨rets, outs⟩ := res
  unfold impl_Choose_1_dec at h
  dsimp only at h
  split at h
  · obtain ⟨r0, h0, h⟩ := Option.bind_eq_some_iff.1 h
    cases h
    rw [retV_eq ok h0]
    rfl
  · cases h
def slices_IndexFunc_int_int__impl_Choose_1_dec (res : Res T) : Option Int := match res.rets, res.outs with
  | [a0], [] => (retV (T := T) 3 a0).bind fun r0 => some (r0)
  | _, _ => none
def slices_IndexFunc_int_int__impl_Choose_1_enc (y : Int) : Res T := ⟨[vR T 3 y], []⟩
theorem slices_IndexFunc_int_int__impl_Choose_1_de (res : Res T) (y : Int) (h : slices_IndexFunc_int_int__impl_Choose_1_dec res = some y) : res = slices_IndexFunc_int_int__impl_Choose_1_enc y := by
  obtain ⟨rets, outs⟩ := res
  unfold slices_IndexFunc_int_int__impl_Choose_1_dec at h
  dsimp only at h
  split at h
  · obtain ⟨r0, h0, h⟩ := Option.bind_eq_some_iff.1 h
    cases h
    rw [retV_eq ok h0]
    rfl
  · cases h
def slices_ContainsFunc_int_int__impl_Choose_1_dec (res : Res T) : Option Bool := match res.rets, res.outs with
  | [a0], [] => (retV (T := T) 4 a0).bind fun r0 => some (r0)
  | _, _ => none
def slices_ContainsFunc_int_int__impl_Choose_1_enc (y : Bool) : Res T := ⟨[vR T 4 y], []⟩
theorem slices_ContainsFunc_int_int__impl_Choose_1_de (res : Res T) (y : Bool) (h : slices_ContainsFunc_int_int__impl_Choose_1_dec res = some y) : res = slices_ContainsFunc_int_int__impl_Choose_1_enc y := by
  obtain ⟨rets, outs⟩ := res
  unfold slices_ContainsFunc_int_int__impl_Choose_1_dec at h
  dsimp only at h
  split at h
  · obtain ⟨r0, h0, h⟩ := Option.bind_eq_some_iff.1 h
    cases h
    rw [retV_eq ok h0]
    rfl
  · cases h
def impl_Choose_dec (res : Res T) : Option (Int × Bool) := match res.rets, res.outs with
  | [a0, a1], [] => (retV (T := T) 3 a0).bind fun r0 => (retV (T := T) 4 a1).bind fun r1 => some (r0, r1)
  | _, _ => none
def impl_Choose_enc (y : Int × Bool) : Res T := ⟨[vR T 3 y.1, vR T 4 y.2], []⟩
theorem impl_Choose_de (res : Res T) (y : Int × Bool) (h : impl_Choose_dec res = some y) : res = impl_Choose_enc y := by
  obtain ⟨rets, outs⟩ := res
  unfold impl_Choose_dec at h
  dsimp only at h
  split at h
  · obtain ⟨r0, h0, h⟩ := Option.bind_eq_some_iff.1 h
    obtain ⟨r1, h1, h⟩ := Option.bind_eq_some_iff.1 h
    cases h
    rw [retV_eq ok h0, retV_eq ok h1]
    rfl
  · cases h
def impl_Settle_dec (res : Res T) : Option (List SRadio × Int × Bool) := match res.rets, res.outs with
  | [a0, a1, a2], [] => (retV (T := T) 33 a0).bind fun r0 => (retV (T := T) 3 a1).bind fun r1 => (retV (T := T) 4 a2).bind fun r2 => some (r0, r1, r2)
  | _, _ => none
def impl_Settle_enc (y : List SRadio × Int × Bool) : Res T := ⟨[vR T 33 y.1, vR T 3 y.2.1, vR T 4 y.2.2], []⟩
theorem impl_Settle_de (res : Res T) (y : List SRadio × Int × Bool) (h : impl_Settle_dec res = some y) : res = impl_Settle_enc y := by
  obtain ⟨rets, outs⟩ := res
  unfold impl_Settle_dec at h
  dsimp only at h
  split at h
  · obtain ⟨r0, h0, h⟩ := Option.bind_eq_some_iff.1 h
    obtain ⟨r1, h1, h⟩ := Option.bind_eq_some_iff.1 h
    obtain ⟨r2, h2, h⟩ := Option.bind_eq_some_iff.1 h
    cases h
    rw [retV_eq ok h0, retV_eq ok h1, retV_eq ok h2]
    rfl
  · cases h
def laws_FnKept_dec (res : Res T) : Option Bool := match res.rets, res.outs with
  | [a0], [] => (retV (T := T) 4 a0).bind fun r0 => some (r0)
  | _, _ => none
def laws_FnKept_enc (y : Bool) : Res T := ⟨[vR T 4 y], []⟩
theorem laws_FnKept_de (res : Res T) (y : Bool) (h : laws_FnKept_dec res = some y) : res = laws_FnKept_enc y := by
  obtain ⟨rets, outs⟩ := res
  unfold laws_FnKept_dec at h
  dsimp only at h
  split at h
  · obtain ⟨r0, h0, h⟩ := Option.bind_eq_some_iff.1 h
    cases h
    rw [retV_eq ok h0]
    rfl
  · cases h
def laws_big_D (n : Nat) (r0 : List (A T)) : Option Bool := ocons r0 fun a0 r1 => onil r1 (obind (argV (T := T) 22 a0) fun code0 => laws_big n code0)
def laws_big_ent (n : Nat) : Ent T := ⟨6, 0, [], Bool, laws_big_D n, laws_big_enc⟩
def spec_l1New_D (n : Nat) (r0 : List (A T)) : Option Sl1Cur := ocons r0 fun a0 r1 => onil r1 (obind (argV (T := T) 22 a0) fun code0 => spec_l1New n code0)
def spec_l1New_ent (n : Nat) : Ent T := ⟨28, 1, [], Sl1Cur, spec_l1New_D n, spec_l1New_enc⟩
def spec_l1Byte_D (n : Nat) (r0 : List (A T)) : Option (Int × Sl1Cur) := ocons r0 fun a0 r1 => onil r1 (obind (argP (T := T) 120 a0) fun c0 => spec_l1Byte n c0)
def spec_l1Byte_ent (n : Nat) : Ent T := ⟨79, 2, [], Int × Sl1Cur, spec_l1Byte_D n, spec_l1Byte_enc⟩
def spec_l1Below_D (n : Nat) (r0 : List (A T)) : Option (Int × Sl1Cur) := ocons r0 fun a0 r1 => ocons r1 fun a1 r2 => onil r2 (obind (argP (T := T) 120 a0) fun c0 => obind (argV (T := T) 3 a1) fun n1 => spec_l1Below n c0 n1)
def spec_l1Below_ent (n : Nat) : Ent T := ⟨30, 3, [], Int × Sl1Cur, spec_l1Below_D n, spec_l1Below_enc⟩
def spec_l18Draw_D (n : Nat) (r0 : List (A T)) : Option (SYard × Sl1Cur) := ocons r0 fun a0 r1 => ocons r1 fun a1 r2 => ocons r2 fun a2 r3 => onil r3 (obind (argP (T := T) 120 a0) fun c0 => obind (argV (T := T) 3 a1) fun stacks1 => obind (argV (T := T) 3 a2) fun boxes2 => spec_l18Draw n c0 stacks1 boxes2)
def spec_l18Draw_ent (n : Nat) : Ent T := ⟨29, 4, [], SYard × Sl1Cur, spec_l18Draw_D n, spec_l18Draw_enc⟩
def spec_l1PickInt_D (n : Nat) (r0 : List (A T)) : Option (Int × Sl1Cur) := ocons r0 fun a0 r1 => ocons r1 fun a1 r2 => onil r2 (obind (argP (T := T) 120 a0) fun c0 => obind (argV (T := T) 30 a1) fun list1 => spec_l1PickInt n c0 list1)
def spec_l1PickInt_ent (n : Nat) : Ent T := ⟨80, 5, [], Int × Sl1Cur, spec_l1PickInt_D n, spec_l1PickInt_enc⟩
def spec_l18DrawOp_D (n : Nat) (r0 : List (A T)) : Option (SYardOp × Sl1Cur) := ocons r0 fun a0 r1 => onil r1 (obind (argP (T := T) 120 a0) fun c0 => spec_l18DrawOp n c0)
def spec_l18DrawOp_ent (n : Nat) : Ent T := ⟨31, 6, [], SYardOp × Sl1Cur, spec_l18DrawOp_D n, spec_l18DrawOp_enc⟩
def spec_DrawYard_D (n : Nat) (r0 : List (A T)) : Option (SYard × List SYardOp) := ocons r0 fun a0 r1 => onil r1 (obind (argV (T := T) 22 a0) fun code0 => spec_DrawYard n code0)
def spec_DrawYard_ent (n : Nat) : Ent T := ⟨7, 7, [], SYard × List SYardOp, spec_DrawYard_D n, spec_DrawYard_enc⟩
def impl_own_int_D (n : Nat) (r0 : List (A T)) : Option (List (List Int)) := ocons r0 fun a0 r1 => onil r1 (obind (argV (T := T) 24 a0) fun l0 => impl_own_int n l0)
def impl_own_int_ent (n : Nat) : Ent T := ⟨81, 8, [], List (List Int), impl_own_int_D n, impl_own_int_enc⟩
def impl_own_int_f34_D (n : Nat) (r0 : List (A T)) : Option (List Int) := ocons r0 fun a0 r1 => onil r1 (obind (argV (T := T) 30 a0) fun l0 => impl_own_int_f34 n l0)
def impl_own_int_f34_ent (n : Nat) : Ent T := ⟨34, 9, [], List Int, impl_own_int_f34_D n, impl_own_int_f34_enc⟩
def impl_Yard_own_D (n : Nat) (r0 : List (A T)) : Option SYard := ocons r0 fun a0 r1 => onil r1 (obind (argV (T := T) 26 a0) fun y0 => impl_Yard_own n y0)
def impl_Yard_own_ent (n : Nat) : Ent T := ⟨32, 10, [], SYard, impl_Yard_own_D n, impl_Yard_own_enc⟩
def impl_in_D (n : Nat) (r0 : List (A T)) : Option Bool := ocons r0 fun a0 r1 => ocons r1 fun a1 r2 => ocons r2 fun a2 r3 => onil r3 (obind (argV (T := T) 3 a0) fun n0 => obind (argV (T := T) 3 a1) fun least1 => obind (argV (T := T) 3 a2) fun most2 => impl_in n n0 least1 most2)
def impl_in_ent (n : Nat) : Ent T := ⟨69, 11, [], Bool, impl_in_D n, impl_in_enc⟩
def impl_idRight_D (n : Nat) (r0 : List (A T)) : Option Bool := ocons r0 fun a0 r1 => onil r1 (obind (argV (T := T) 3 a0) fun n0 => impl_idRight n n0)
def impl_idRight_ent (n : Nat) : Ent T := ⟨83, 12, [], Bool, impl_idRight_D n, impl_idRight_enc⟩
def impl_YardOk_D (n : Nat) (r0 : List (A T)) : Option Bool := ocons r0 fun a0 r1 => onil r1 (obind (argV (T := T) 26 a0) fun y0 => impl_YardOk n y0)
def impl_YardOk_ent (n : Nat) : Ent T := ⟨82, 13, [], Bool, impl_YardOk_D n, impl_YardOk_enc⟩
def slices_Index_int_int_D (n : Nat) (r0 : List (A T)) : Option Int := ocons r0 fun a0 r1 => ocons r1 fun a1 r2 => onil r2 (obind (argV (T := T) 30 a0) fun s0 => obind (argV (T := T) 3 a1) fun v1 => slices_Index_int_int n s0 v1)
def slices_Index_int_int_ent (n : Nat) : Ent T := ⟨114, 14, [], Int, slices_Index_int_int_D n, slices_Index_int_int_enc⟩
def impl_FindBox_D (n : Nat) (r0 : List (A T)) : Option (Int × Int × Bool) := ocons r0 fun a0 r1 => ocons r1 fun a1 r2 => onil r2 (obind (argV (T := T) 26 a0) fun y0 => obind (argV (T := T) 3 a1) fun box1 => impl_FindBox n y0 box1)
def impl_FindBox_ent (n : Nat) : Ent T := ⟨84, 15, [], Int × Int × Bool, impl_FindBox_D n, impl_FindBox_enc⟩
def impl_Yard_lift_D (n : Nat) (r0 : List (A T)) : Option (List (List Int)) := ocons r0 fun a0 r1 => ocons r1 fun a1 r2 => ocons r2 fun a2 r3 => onil r3 (obind (argV (T := T) 26 a0) fun y0 => obind (argV (T := T) 3 a1) fun from1 => obind (argV (T := T) 3 a2) fun to2 => impl_Yard_lift n y0 from1 to2)
def impl_Yard_lift_ent (n : Nat) : Ent T := ⟨85, 16, [], List (List Int), impl_Yard_lift_D n, impl_Yard_lift_enc⟩
def impl_DoYard_D (n : Nat) (r0 : List (A T)) : Option (SYard × Int × Int) := ocons r0 fun a0 r1 => ocons r1 fun a1 r2 => onil r2 (obind (argV (T := T) 26 a0) fun y0 => obind (argV (T := T) 75 a1) fun op1 => impl_DoYard n y0 op1)
def impl_DoYard_ent (n : Nat) : Ent T := ⟨33, 17, [], SYard × Int × Int, impl_DoYard_D n, impl_DoYard_enc⟩
def impl_RunYard_D (n : Nat) (r0 : List (A T)) : Option (SYard × List Int × Int) := ocons r0 fun a0 r1 => ocons r1 fun a1 r2 => onil r2 (obind (argV (T := T) 26 a0) fun y0 => obind (argV (T := T) 27 a1) fun ops1 => impl_RunYard n y0 ops1)
def impl_RunYard_ent (n : Nat) : Ent T := ⟨8, 18, [], SYard × List Int × Int, impl_RunYard_D n, impl_RunYard_enc⟩
def spec_l1Once_D (n : Nat) (r0 : List (A T)) : Option (Bool × Sl1Cur) := ocons r0 fun a0 r1 => ocons r1 fun a1 r2 => onil r2 (obind (argP (T := T) 120 a0) fun c0 => obind (argV (T := T) 3 a1) fun n1 => spec_l1Once n c0 n1)
def spec_l1Once_ent (n : Nat) : Ent T := ⟨86, 19, [], Bool × Sl1Cur, spec_l1Once_D n, spec_l1Once_enc⟩
def spec_l9DrawRadios_D (n : Nat) (r0 : List (A T)) : Option (List SRadio × Sl1Cur) := ocons r0 fun a0 r1 => onil r1 (obind (argP (T := T) 120 a0) fun c0 => spec_l9DrawRadios n c0)
def spec_l9DrawRadios_ent (n : Nat) : Ent T := ⟨35, 20, [], List SRadio × Sl1Cur, spec_l9DrawRadios_D n, spec_l9DrawRadios_enc⟩
def spec_l9DrawCoins_D (n : Nat) (r0 : List (A T)) : Option (List Int × Sl1Cur) := ocons r0 fun a0 r1 => ocons r1 fun a1 r2 => onil r2 (obind (argP (T := T) 120 a0) fun c0 => obind (argV (T := T) 3 a1) fun n1 => spec_l9DrawCoins n c0 n1)
def spec_l9DrawCoins_ent (n : Nat) : Ent T := ⟨36, 21, [], List Int × Sl1Cur, spec_l9DrawCoins_D n, spec_l9DrawCoins_enc⟩
def spec_DrawQuiet_D (n : Nat) (r0 : List (A T)) : Option (List SRadio × List Int) := ocons r0 fun a0 r1 => onil r1 (obind (argV (T := T) 22 a0) fun code0 => spec_DrawQuiet n code0)
def spec_DrawQuiet_ent (n : Nat) : Ent T := ⟨9, 22, [], List SRadio × List Int, spec_DrawQuiet_D n, spec_DrawQuiet_enc⟩
def impl_idOk_D (n : Nat) (r0 : List (A T)) : Option Bool := ocons r0 fun a0 r1 => onil r1 (obind (argV (T := T) 3 a0) fun n0 => impl_idOk n n0)
def impl_idOk_ent (n : Nat) : Ent T := ⟨87, 23, [], Bool, impl_idOk_D n, impl_idOk_enc⟩
def impl_slotOk_D (n : Nat) (r0 : List (A T)) : Option Bool := ocons r0 fun a0 r1 => onil r1 (obind (argV (T := T) 3 a0) fun n0 => impl_slotOk n n0)
def impl_slotOk_ent (n : Nat) : Ent T := ⟨88, 24, [], Bool, impl_slotOk_D n, impl_slotOk_enc⟩
def slices_Contains_int_int_D (n : Nat) (r0 : List (A T)) : Option Bool := ocons r0 fun a0 r1 => ocons r1 fun a1 r2 => onil r2 (obind (argV (T := T) 30 a0) fun s0 => obind (argV (T := T) 3 a1) fun v1 => slices_Contains_int_int n s0 v1)
def slices_Contains_int_int_ent (n : Nat) : Ent T := ⟨89, 25, [], Bool, slices_Contains_int_int_D n, slices_Contains_int_int_enc⟩
def impl_RadiosOk_D (n : Nat) (r0 : List (A T)) : Option Bool := ocons r0 fun a0 r1 => onil r1 (obind (argV (T := T) 33 a0) fun list0 => impl_RadiosOk n list0)
def impl_RadiosOk_ent (n : Nat) : Ent T := ⟨37, 26, [], Bool, impl_RadiosOk_D n, impl_RadiosOk_enc⟩
def impl_Settle_1_D (n : Nat) (r0 : List (A T)) : Option Bool := ocons r0 fun a0 r1 => onil r1 (obind (argV (T := T) 3 a0) fun c0 => impl_Settle_1 n c0)
def impl_Settle_1_ent (n : Nat) : Ent T := ⟨39, 27, [], Bool, impl_Settle_1_D n, impl_Settle_1_enc⟩
def slices_IndexFunc_int_int__impl_Settle_1_D (n : Nat) (ar : List (A T)) : Option Int := match ar with
  | [a0, .fn _ []] => obind (argV (T := T) 30 a0) fun s0 => slices_IndexFunc_int_int__impl_Settle_1 n s0
  | _ => none
def slices_IndexFunc_int_int__impl_Settle_1_ent (n : Nat) : Ent T := ⟨90, 28, [39], Int, slices_IndexFunc_int_int__impl_Settle_1_D n, slices_IndexFunc_int_int__impl_Settle_1_enc⟩
def slices_ContainsFunc_int_int__impl_Settle_1_D (n : Nat) (ar : List (A T)) : Option Bool := match ar with
  | [a0, .fn _ []] => obind (argV (T := T) 30 a0) fun s0 => slices_ContainsFunc_int_int__impl_Settle_1 n s0
  | _ => none
def slices_ContainsFunc_int_int__impl_Settle_1_ent (n : Nat) : Ent T := ⟨38, 29, [39], Bool, slices_ContainsFunc_int_int__impl_Settle_1_D n, slices_ContainsFunc_int_int__impl_Settle_1_enc⟩
def impl_own_impl_Radio_D (n : Nat) (r0 : List (A T)) : Option (List SRadio) := ocons r0 fun a0 r1 => onil r1 (obind (argV (T := T) 33 a0) fun l0 => impl_own_impl_Radio n l0)
def impl_own_impl_Radio_ent (n : Nat) : Ent T := ⟨40, 30, [], List SRadio, impl_own_impl_Radio_D n, impl_own_impl_Radio_enc⟩
def impl_Clashes_1_D (n : Nat) (r0 : List (A T)) : Option Bool := ocons r0 fun a0 r1 => ocons r1 fun a1 r2 => ocons r2 fun a2 r3 => onil r3 (obind (argV (T := T) 3 a0) fun h0 => obind (argP (T := T) 33 a1) fun a1 => obind (argP (T := T) 37 a2) fun a2 => impl_Clashes_1 n h0 a1 a2)
def impl_Clashes_1_ent (n : Nat) : Ent T := ⟨91, 31, [], Bool, impl_Clashes_1_D n, impl_Clashes_1_enc⟩
def slices_IndexFunc_int_int__impl_Clashes_1_D (n : Nat) (ar : List (A T)) : Option Int := match ar with
  | [a0, .fn _ [k1_0, k1_1]] => obind (argV (T := T) 30 a0) fun s0 => obind (argP (T := T) 33 k1_0) fun f1c0 => obind (argP (T := T) 37 k1_1) fun f1c1 => slices_IndexFunc_int_int__impl_Clashes_1 n s0 f1c0 f1c1
  | _ => none
def slices_IndexFunc_int_int__impl_Clashes_1_ent (n : Nat) : Ent T := ⟨90, 32, [91], Int, slices_IndexFunc_int_int__impl_Clashes_1_D n, slices_IndexFunc_int_int__impl_Clashes_1_enc⟩
def slices_ContainsFunc_int_int__impl_Clashes_1_D (n : Nat) (ar : List (A T)) : Option Bool := match ar with
  | [a0, .fn _ [k1_0, k1_1]] => obind (argV (T := T) 30 a0) fun s0 => obind (argP (T := T) 33 k1_0) fun f1c0 => obind (argP (T := T) 37 k1_1) fun f1c1 => slices_ContainsFunc_int_int__impl_Clashes_1 n s0 f1c0 f1c1
  | _ => none
def slices_ContainsFunc_int_int__impl_Clashes_1_ent (n : Nat) : Ent T := ⟨38, 33, [91], Bool, slices_ContainsFunc_int_int__impl_Clashes_1_D n, slices_ContainsFunc_int_int__impl_Clashes_1_enc⟩
def impl_Clashes_D (n : Nat) (r0 : List (A T)) : Option (List Int) := ocons r0 fun a0 r1 => onil r1 (obind (argV (T := T) 33 a0) fun list0 => impl_Clashes n list0)
def impl_Clashes_ent (n : Nat) : Ent T := ⟨41, 34, [], List Int, impl_Clashes_D n, impl_Clashes_enc⟩
def impl_Choose_1_D (n : Nat) (r0 : List (A T)) : Option Bool := ocons r0 fun a0 r1 => ocons r1 fun a1 r2 => ocons r2 fun a2 r3 => onil r3 (obind (argV (T := T) 3 a0) fun h0 => obind (argP (T := T) 33 a1) fun a1 => obind (argP (T := T) 3 a2) fun a2 => impl_Choose_1 n h0 a1 a2)
def impl_Choose_1_ent (n : Nat) : Ent T := ⟨92, 35, [], Bool, impl_Choose_1_D n, impl_Choose_1_enc⟩
def slices_IndexFunc_int_int__impl_Choose_1_D (n : Nat) (ar : List (A T)) : Option Int := match ar with
  | [a0, .fn _ [k1_0, k1_1]] => obind (argV (T := T) 30 a0) fun s0 => obind (argP (T := T) 33 k1_0) fun f1c0 => obind (argP (T := T) 3 k1_1) fun f1c1 => slices_IndexFunc_int_int__impl_Choose_1 n s0 f1c0 f1c1
  | _ => none
def slices_IndexFunc_int_int__impl_Choose_1_ent (n : Nat) : Ent T := ⟨90, 36, [92], Int, slices_IndexFunc_int_int__impl_Choose_1_D n, slices_IndexFunc_int_int__impl_Choose_1_enc⟩
def slices_ContainsFunc_int_int__impl_Choose_1_D (n : Nat) (ar : List (A T)) : Option Bool := match ar with
  | [a0, .fn _ [k1_0, k1_1]] => obind (argV (T := T) 30 a0) fun s0 => obind (argP (T := T) 33 k1_0) fun f1c0 => obind (argP (T := T) 3 k1_1) fun f1c1 => slices_ContainsFunc_int_int__impl_Choose_1 n s0 f1c0 f1c1
  | _ => none
def slices_ContainsFunc_int_int__impl_Choose_1_ent (n : Nat) : Ent T := ⟨38, 37, [92], Bool, slices_ContainsFunc_int_int__impl_Choose_1_D n, slices_ContainsFunc_int_int__impl_Choose_1_enc⟩
def impl_Choose_D (n : Nat) (r0 : List (A T)) : Option (Int × Bool) := ocons r0 fun a0 r1 => ocons r1 fun a1 r2 => ocons r2 fun a2 r3 => onil r3 (obind (argV (T := T) 33 a0) fun list0 => obind (argV (T := T) 3 a1) fun at1 => obind (argV (T := T) 3 a2) fun coin2 => impl_Choose n list0 at1 coin2)
def impl_Choose_ent (n : Nat) : Ent T := ⟨42, 38, [], Int × Bool, impl_Choose_D n, impl_Choose_enc⟩
def impl_Settle_D (n : Nat) (r0 : List (A T)) : Option (List SRadio × Int × Bool) := ocons r0 fun a0 r1 => ocons r1 fun a1 r2 => onil r2 (obind (argV (T := T) 33 a0) fun list0 => obind (argV (T := T) 30 a1) fun coins1 => impl_Settle n list0 coins1)
def impl_Settle_ent (n : Nat) : Ent T := ⟨10, 39, [], List SRadio × Int × Bool, impl_Settle_D n, impl_Settle_enc⟩
def laws_FnKept_D (n : Nat) (r0 : List (A T)) : Option Bool := ocons r0 fun a0 r1 => onil r1 (obind (argV (T := T) 22 a0) fun code0 => laws_FnKept n code0)
def laws_FnKept_ent (n : Nat) : Ent T := ⟨3, 40, [], Bool, laws_FnKept_D n, laws_FnKept_enc⟩
def ents (n : Nat) : List (Ent T) := [laws_big_ent n, spec_l1New_ent n, spec_l1Byte_ent n, spec_l1Below_ent n, spec_l18Draw_ent n, spec_l1PickInt_ent n, spec_l18DrawOp_ent n, spec_DrawYard_ent n, impl_own_int_ent n, impl_own_int_f34_ent n, impl_Yard_own_ent n, impl_in_ent n, impl_idRight_ent n, impl_YardOk_ent n, slices_Index_int_int_ent n, impl_FindBox_ent n, impl_Yard_lift_ent n, impl_DoYard_ent n, impl_RunYard_ent n, spec_l1Once_ent n, spec_l9DrawRadios_ent n, spec_l9DrawCoins_ent n, spec_DrawQuiet_ent n, impl_idOk_ent n, impl_slotOk_ent n, slices_Contains_int_int_ent n, impl_RadiosOk_ent n, impl_Settle_1_ent n, slices_IndexFunc_int_int__impl_Settle_1_ent n, slices_ContainsFunc_int_int__impl_Settle_1_ent n, impl_own_impl_Radio_ent n, impl_Clashes_1_ent n, slices_IndexFunc_int_int__impl_Clashes_1_ent n, slices_ContainsFunc_int_int__impl_Clashes_1_ent n, impl_Clashes_ent n, impl_Choose_1_ent n, slices_IndexFunc_int_int__impl_Choose_1_ent n, slices_ContainsFunc_int_int__impl_Choose_1_ent n, impl_Choose_ent n, impl_Settle_ent n, laws_FnKept_ent n]
abbrev Phi (n i : Nat) {R : Type} (f : Nat) (ar : List (A T)) (K : Res T → Option R) : Option R := PhiE (ents n) i f ar K
theorem mixed : Try.prog.follows .mixedOrders = true := by kernel_rfl
noncomputable def laws_big_code : Code := match Try.f6.body with | some c => c | none => .skip
def laws_big_ann : Ann := fun id => none
def laws_big_Ls (n : Nat) : Nat → Option (LSpec T) := fun id => none
theorem laws_big_tie (n : Nat) (code0 : List Int) : evF (T := T) (Phi n 0) (laws_big_Ls n) laws_big_ann n Try.f6 (sg 6) [vA T 22 code0] laws_big_dec = laws_big n code0 := by kernel_rfl
theorem laws_big_lo (n : Nat) : LoopsOk (T := T) (Phi n 0) (laws_big_Ls n) laws_big_ann n laws_big_code := loopsOk_all (cs := []) (by kernel_rfl) trivial
theorem laws_big_ok (n : Nat) : EntOk Try.prog (ents n) (laws_big_ent n) := by
  intro hs ar y hg h
  replace h : laws_big_D n ar = some y := h
  unfold laws_big_D at h
  replace h := ocons_some h
  obtain ⟨a0, r0, rfl, h⟩ := h
  replace h := onil_some h
  obtain ⟨rfl, h⟩ := h
  obtain ⟨code0, qh0, h⟩ := obind_some h
  rw [argV_eq ok qh0]
  exact call_of (phiE_nat _ _) hs ok mixed Try.func6 (c := laws_big_code) (by kernel_rfl) (laws_big_lo n) (by kernel_rfl) (by kernel_rfl) (by kernel_rfl) laws_big_de ((laws_big_tie n code0).trans h)
noncomputable def spec_l1New_code : Code := match Try.f28.body with | some c => c | none => .skip
def spec_l1New_3_sv : List Sv := [.one (.arr 5), .one (.int .i64), .one (.int .i64)]
def spec_l1New_3_so : List So := []
def spec_l1New_3_emb (c : List Int) (x : Int × Int) : EVs T spec_l1New_3_sv × EOs T spec_l1New_3_so := ((c, x.1, x.2, ()), ())
def spec_l1New_3_prj (y : EVs T spec_l1New_3_sv × EOs T spec_l1New_3_so) : List Int × (Int × Int) := ((y.1.1), (y.1.2.1, y.1.2.2.1))
def spec_l1New_3_b (n : Nat) {R : Type} (K : Ex → Sm.St T → Option R) (c : List Int) (x : Int × Int) (J : (Int × Int) → Option R) : Option R :=
  spec_l1New_L3 n (fun (y1 : Int) => K (.exit 0) (stOf (T := T) [0, 3] [] [.one (.arr 5), .one (.int .i64)] [] (c, y1, ()) ())) (fun z0 z1 => J (z0, z1)) c x.1 x.2
def spec_l1New_3_sp (n : Nat) : LSpec T := mkSpec T ⟨[], [0, 3, 4], []⟩ spec_l1New_3_sv spec_l1New_3_so (List Int) (Int × Int) spec_l1New_3_emb spec_l1New_3_prj (spec_l1New_3_b n)
noncomputable def spec_l1New_3_c : Code := ((loopCodes spec_l1New_code)[0]?).getD .skip
def spec_l1New_ann : Ann := fun id => bif Nat.beq id 3000003 then some ⟨[], [0, 3], []⟩ else none
def spec_l1New_Ls (n : Nat) : Nat → Option (LSpec T) := fun id => bif Nat.beq id 3 then some (spec_l1New_3_sp n) else none
theorem spec_l1New_3_le (n : Nat) : LoopEq (T := T) (Phi n 1) (spec_l1New_Ls n) spec_l1New_ann n spec_l1New_3_c (spec_l1New_3_sp n) := ⟨mkSpec_dec (fun y => rfl), fun c x => by kernel_rfl, fun K J c x => by kernel_rfl⟩
theorem spec_l1New_tie (n : Nat) (code0 : List Int) : evF (T := T) (Phi n 1) (spec_l1New_Ls n) spec_l1New_ann n Try.f28 (sg 28) [vA T 22 code0] spec_l1New_dec = spec_l1New n code0 := by kernel_rfl
theorem spec_l1New_lo (n : Nat) : LoopsOk (T := T) (Phi n 1) (spec_l1New_Ls n) spec_l1New_ann n spec_l1New_code := loopsOk_all (cs := [spec_l1New_3_c]) (by kernel_rfl) ⟨⟨_, by kernel_rfl, spec_l1New_3_le n⟩, trivial⟩
theorem spec_l1New_ok (n : Nat) : EntOk Try.prog (ents n) (spec_l1New_ent n) := by
  intro hs ar y hg h
  replace h : spec_l1New_D n ar = some y := h
  unfold spec_l1New_D at h
  replace h := ocons_some h
  obtain ⟨a0, r0, rfl, h⟩ := h
  replace h := onil_some h
  obtain ⟨rfl, h⟩ := h
  obtain ⟨code0, qh0, h⟩ := obind_some h
  rw [argV_eq ok qh0]
  exact call_of (phiE_nat _ _) hs ok mixed Try.func28 (c := spec_l1New_code) (by kernel_rfl) (spec_l1New_lo n) (by kernel_rfl) (by kernel_rfl) (by kernel_rfl) spec_l1New_de ((spec_l1New_tie n code0).trans h)
noncomputable def spec_l1Byte_code : Code := match Try.f79.body with | some c => c | none => .skip
def spec_l1Byte_ann : Ann := fun id => none
def spec_l1Byte_Ls (n : Nat) : Nat → Option (LSpec T) := fun id => none
theorem spec_l1Byte_tie (n : Nat) (c0 : Sl1Cur) : evF (T := T) (Phi n 2) (spec_l1Byte_Ls n) spec_l1Byte_ann n Try.f79 (sg 79) [.ptr 120 c0] spec_l1Byte_dec = spec_l1Byte n c0 := by kernel_rfl
theorem spec_l1Byte_lo (n : Nat) : LoopsOk (T := T) (Phi n 2) (spec_l1Byte_Ls n) spec_l1Byte_ann n spec_l1Byte_code := loopsOk_all (cs := []) (by kernel_rfl) trivial
theorem spec_l1Byte_ok (n : Nat) : EntOk Try.prog (ents n) (spec_l1Byte_ent n) := by
  intro hs ar y hg h
  replace h : spec_l1Byte_D n ar = some y := h
  unfold spec_l1Byte_D at h
  replace h := ocons_some h
  obtain ⟨a0, r0, rfl, h⟩ := h
  replace h := onil_some h
  obtain ⟨rfl, h⟩ := h
  obtain ⟨c0, qh0, h⟩ := obind_some h
  rw [argP_eq qh0]
  exact call_of (phiE_nat _ _) hs ok mixed Try.func79 (c := spec_l1Byte_code) (by kernel_rfl) (spec_l1Byte_lo n) (by kernel_rfl) (by kernel_rfl) (by kernel_rfl) spec_l1Byte_de ((spec_l1Byte_tie n c0).trans h)
noncomputable def spec_l1Below_code : Code := match Try.f30.body with | some c => c | none => .skip
def spec_l1Below_ann : Ann := fun id => none
def spec_l1Below_Ls (n : Nat) : Nat → Option (LSpec T) := fun id => none
theorem spec_l1Below_tie (n : Nat) (c0 : Sl1Cur) (n1 : Int) : evF (T := T) (Phi n 3) (spec_l1Below_Ls n) spec_l1Below_ann n Try.f30 (sg 30) [.ptr 120 c0, vA T 3 n1] spec_l1Below_dec = spec_l1Below n c0 n1 := by kernel_rfl
theorem spec_l1Below_lo (n : Nat) : LoopsOk (T := T) (Phi n 3) (spec_l1Below_Ls n) spec_l1Below_ann n spec_l1Below_code := loopsOk_all (cs := []) (by kernel_rfl) trivial
theorem spec_l1Below_ok (n : Nat) : EntOk Try.prog (ents n) (spec_l1Below_ent n) := by
  intro hs ar y hg h
  replace h : spec_l1Below_D n ar = some y := h
  unfold spec_l1Below_D at h
  replace h := ocons_some h
  obtain ⟨a0, r0, rfl, h⟩ := h
  replace h := ocons_some h
  obtain ⟨a1, r1, rfl, h⟩ := h
  replace h := onil_some h
  obtain ⟨rfl, h⟩ := h
  obtain ⟨c0, qh0, h⟩ := obind_some h
  obtain ⟨n1, qh1, h⟩ := obind_some h
  rw [argP_eq qh0, argV_eq ok qh1]
  exact call_of (phiE_nat _ _) hs ok mixed Try.func30 (c := spec_l1Below_code) (by kernel_rfl) (spec_l1Below_lo n) (by kernel_rfl) (by kernel_rfl) (by kernel_rfl) spec_l1Below_de ((spec_l1Below_tie n c0 n1).trans h)
noncomputable def spec_l18Draw_code : Code := match Try.f29.body with | some c => c | none => .skip
def spec_l18Draw_4_sv : List Sv := [.one (.ptr 4503599627370496 0 0), .one (.int .i64), .one (.int .i64), .one (.ptr 48 0 0), .one (.ptr 56 0 0), .one (.int .i64), .one (.int .i64)]
def spec_l18Draw_4_so : List So := [.var [.arr 5, .int .i64, .int .i64], .var [.int .i64, .own 3000000 30 false], .arr 30 false, .var [.int .i64, .own 3000001 30 false], .arr 30 false]
def spec_l18Draw_4_emb (c : Int × Int × Int × List (List Int) × Int) (x : Int × Int × Sl1Cur × List (List Int)) : EVs T spec_l18Draw_4_sv × EOs T spec_l18Draw_4_so := (((), c.1, c.2.1, (), (), x.1, x.2.1, ()), ((x.2.2.1.b, x.2.2.1.i, x.2.2.1.h, ()), (c.2.2.1, (), ()), c.2.2.2.1, (c.2.2.2.2, (), ()), x.2.2.2, ()))
def spec_l18Draw_4_prj (y : EVs T spec_l18Draw_4_sv × EOs T spec_l18Draw_4_so) : (Int × Int × Int × List (List Int) × Int) × (Int × Int × Sl1Cur × List (List Int)) := ((y.1.2.1, y.1.2.2.1, y.2.2.1.1, y.2.2.2.1, y.2.2.2.2.1.1), (y.1.2.2.2.2.2.1, y.1.2.2.2.2.2.2.1, ((⟨y.2.1.1, y.2.1.2.1, y.2.1.2.2.1⟩ : Sl1Cur) : Sl1Cur), y.2.2.2.2.2.1))
def spec_l18Draw_4_b (n : Nat) {R : Type} (K : Ex → Sm.St T → Option R) (c : Int × Int × Int × List (List Int) × Int) (x : Int × Int × Sl1Cur × List (List Int)) (J : (Int × Int × Sl1Cur × List (List Int)) → Option R) : Option R :=
  spec_l18Draw_L4 n (fun (y1 : Sl1Cur) (y5 : List (List Int)) => K (.exit 0) (stOf (T := T) [0, 1, 6, 7] [4503599627370496, 48, 3000000, 56, 3000001] [.one (.ptr 4503599627370496 0 0), .one (.int .i64), .one (.ptr 48 0 0), .one (.ptr 56 0 0)] [.var [.arr 5, .int .i64, .int .i64], .var [.int .i64, .own 3000000 30 false], .arr 30 false, .var [.int .i64, .own 3000001 30 false], .arr 30 false] ((), c.1, (), (), ()) ((y1.b, y1.i, y1.h, ()), (c.2.2.1, (), ()), c.2.2.2.1, (c.2.2.2.2, (), ()), y5, ()))) (fun z0 z1 z2 z3 => J (z0, z1, z2, z3)) c.1 c.2.1 x.1 x.2.1 x.2.2.1 c.2.2.1 c.2.2.2.1 c.2.2.2.2 x.2.2.2
def spec_l18Draw_4_sp (n : Nat) : LSpec T := mkSpec T ⟨[((.cell 48 1), 3000000, 30), ((.cell 56 1), 3000001, 30)], [0, 1, 2, 6, 7, 8, 9], [4503599627370496, 48, 3000000, 56, 3000001]⟩ spec_l18Draw_4_sv spec_l18Draw_4_so (Int × Int × Int × List (List Int) × Int) (Int × Int × Sl1Cur × List (List Int)) spec_l18Draw_4_emb spec_l18Draw_4_prj (spec_l18Draw_4_b n)
noncomputable def spec_l18Draw_4_c : Code := ((loopCodes spec_l18Draw_code)[0]?).getD .skip
def spec_l18Draw_11_sv : List Sv := [.one (.ptr 4503599627370496 0 0), .one (.int .i64), .one (.ptr 48 0 0), .one (.ptr 56 0 0), .one (.int .i64)]
def spec_l18Draw_11_so : List So := [.var [.arr 5, .int .i64, .int .i64], .var [.int .i64, .own 3000000 30 false], .arr 30 false, .var [.int .i64, .own 3000001 30 false], .arr 30 false]
def spec_l18Draw_11_emb (c : Int × Int × List (List Int) × Int) (x : Int × Sl1Cur × List (List Int)) : EVs T spec_l18Draw_11_sv × EOs T spec_l18Draw_11_so := (((), c.1, (), (), x.1, ()), ((x.2.1.b, x.2.1.i, x.2.1.h, ()), (c.2.1, (), ()), c.2.2.1, (c.2.2.2, (), ()), x.2.2, ()))
def spec_l18Draw_11_prj (y : EVs T spec_l18Draw_11_sv × EOs T spec_l18Draw_11_so) : (Int × Int × List (List Int) × Int) × (Int × Sl1Cur × List (List Int)) := ((y.1.2.1, y.2.2.1.1, y.2.2.2.1, y.2.2.2.2.1.1), (y.1.2.2.2.2.1, ((⟨y.2.1.1, y.2.1.2.1, y.2.1.2.2.1⟩ : Sl1Cur) : Sl1Cur), y.2.2.2.2.2.1))
def spec_l18Draw_11_b (n : Nat) {R : Type} (K : Ex → Sm.St T → Option R) (c : Int × Int × List (List Int) × Int) (x : Int × Sl1Cur × List (List Int)) (J : (Int × Sl1Cur × List (List Int)) → Option R) : Option R :=
  spec_l18Draw_L11 n (fun (y3 : List (List Int)) (y4 : Sl1Cur) => K (.exit 2) (stOf (T := T) [6, 7] [48, 3000000, 56, 3000001, 4503599627370496] [.one (.ptr 48 0 0), .one (.ptr 56 0 0)] [.var [.int .i64, .own 3000000 30 false], .arr 30 false, .var [.int .i64, .own 3000001 30 false], .arr 30 false, .var [.arr 5, .int .i64, .int .i64]] ((), (), ()) ((c.2.1, (), ()), c.2.2.1, (c.2.2.2, (), ()), y3, (y4.b, y4.i, y4.h, ()), ()))) (fun z0 z1 z2 => J (z0, z1, z2)) c.1 x.1 x.2.1 c.2.1 c.2.2.1 c.2.2.2 x.2.2
def spec_l18Draw_11_sp (n : Nat) : LSpec T := mkSpec T ⟨[((.cell 48 1), 3000000, 30), ((.cell 56 1), 3000001, 30)], [0, 1, 6, 7, 11], [4503599627370496, 48, 3000000, 56, 3000001]⟩ spec_l18Draw_11_sv spec_l18Draw_11_so (Int × Int × List (List Int) × Int) (Int × Sl1Cur × List (List Int)) spec_l18Draw_11_emb spec_l18Draw_11_prj (spec_l18Draw_11_b n)
noncomputable def spec_l18Draw_11_c : Code := ((loopCodes spec_l18Draw_code)[1]?).getD .skip
def spec_l18Draw_14_sv : List Sv := [.one (.ptr 4503599627370496 0 0), .one (.int .i64), .one (.ptr 48 0 0), .one (.ptr 56 0 0), .one (.int .i64), .one (.int .i64)]
def spec_l18Draw_14_so : List So := [.var [.arr 5, .int .i64, .int .i64], .var [.int .i64, .own 3000000 30 false], .arr 30 false, .var [.int .i64, .own 3000001 30 false], .arr 30 false]
def spec_l18Draw_14_emb (c : Int × Int × Int × List (List Int) × Int) (x : Int × Sl1Cur × List (List Int)) : EVs T spec_l18Draw_14_sv × EOs T spec_l18Draw_14_so := (((), c.1, (), (), c.2.1, x.1, ()), ((x.2.1.b, x.2.1.i, x.2.1.h, ()), (c.2.2.1, (), ()), c.2.2.2.1, (c.2.2.2.2, (), ()), x.2.2, ()))
def spec_l18Draw_14_prj (y : EVs T spec_l18Draw_14_sv × EOs T spec_l18Draw_14_so) : (Int × Int × Int × List (List Int) × Int) × (Int × Sl1Cur × List (List Int)) := ((y.1.2.1, y.1.2.2.2.2.1, y.2.2.1.1, y.2.2.2.1, y.2.2.2.2.1.1), (y.1.2.2.2.2.2.1, ((⟨y.2.1.1, y.2.1.2.1, y.2.1.2.2.1⟩ : Sl1Cur) : Sl1Cur), y.2.2.2.2.2.1))
def spec_l18Draw_14_b (n : Nat) {R : Type} (K : Ex → Sm.St T → Option R) (c : Int × Int × Int × List (List Int) × Int) (x : Int × Sl1Cur × List (List Int)) (J : (Int × Sl1Cur × List (List Int)) → Option R) : Option R :=
  spec_l18Draw_L14 n (fun (y2 : Sl1Cur) (y6 : List (List Int)) => K (.exit 4) (stOf (T := T) [0, 1, 6, 7, 11] [4503599627370496, 48, 3000000, 56, 3000001] [.one (.ptr 4503599627370496 0 0), .one (.int .i64), .one (.ptr 48 0 0), .one (.ptr 56 0 0), .one (.int .i64)] [.var [.arr 5, .int .i64, .int .i64], .var [.int .i64, .own 3000000 30 false], .arr 30 false, .var [.int .i64, .own 3000001 30 false], .arr 30 false] ((), c.1, (), (), c.2.1, ()) ((y2.b, y2.i, y2.h, ()), (c.2.2.1, (), ()), c.2.2.2.1, (c.2.2.2.2, (), ()), y6, ()))) (fun z0 z1 z2 => J (z0, z1, z2)) c.1 c.2.1 x.1 x.2.1 c.2.2.1 c.2.2.2.1 c.2.2.2.2 x.2.2
def spec_l18Draw_14_sp (n : Nat) : LSpec T := mkSpec T ⟨[((.cell 48 1), 3000000, 30), ((.cell 56 1), 3000001, 30)], [0, 1, 6, 7, 11, 12], [4503599627370496, 48, 3000000, 56, 3000001]⟩ spec_l18Draw_14_sv spec_l18Draw_14_so (Int × Int × Int × List (List Int) × Int) (Int × Sl1Cur × List (List Int)) spec_l18Draw_14_emb spec_l18Draw_14_prj (spec_l18Draw_14_b n)
noncomputable def spec_l18Draw_14_c : Code := ((loopCodes spec_l18Draw_code)[2]?).getD .skip
def spec_l18Draw_ann : Ann := fun id => bif Nat.beq id 3000004 then some ⟨[((.cell 48 1), 3000000, 30), ((.cell 56 1), 3000001, 30)], [0, 1, 6, 7], [4503599627370496, 48, 3000000, 56, 3000001]⟩ else bif Nat.beq id 5000011 then some ⟨[((.cell 48 1), 3000000, 30), ((.cell 56 1), 3000001, 30)], [6, 7], [48, 3000000, 56, 3000001, 4503599627370496]⟩ else bif Nat.beq id 7000014 then some ⟨[((.cell 48 1), 3000000, 30), ((.cell 56 1), 3000001, 30)], [0, 1, 6, 7, 11], [4503599627370496, 48, 3000000, 56, 3000001]⟩ else none
def spec_l18Draw_Ls (n : Nat) : Nat → Option (LSpec T) := fun id => bif Nat.beq id 4 then some (spec_l18Draw_4_sp n) else bif Nat.beq id 11 then some (spec_l18Draw_11_sp n) else bif Nat.beq id 14 then some (spec_l18Draw_14_sp n) else none
theorem spec_l18Draw_4_le (n : Nat) : LoopEq (T := T) (Phi n 4) (spec_l18Draw_Ls n) spec_l18Draw_ann n spec_l18Draw_4_c (spec_l18Draw_4_sp n) := ⟨mkSpec_dec (fun y => rfl), fun c x => by kernel_rfl, fun K J c x => by kernel_rfl⟩
theorem spec_l18Draw_11_le (n : Nat) : LoopEq (T := T) (Phi n 4) (spec_l18Draw_Ls n) spec_l18Draw_ann n spec_l18Draw_11_c (spec_l18Draw_11_sp n) := ⟨mkSpec_dec (fun y => rfl), fun c x => by kernel_rfl, fun K J c x => by kernel_rfl⟩
theorem spec_l18Draw_14_le (n : Nat) : LoopEq (T := T) (Phi n 4) (spec_l18Draw_Ls n) spec_l18Draw_ann n spec_l18Draw_14_c (spec_l18Draw_14_sp n) := ⟨mkSpec_dec (fun y => rfl), fun c x => by kernel_rfl, fun K J c x => by kernel_rfl⟩
theorem spec_l18Draw_tie (n : Nat) (c0 : Sl1Cur) (stacks1 : Int) (boxes2 : Int) : evF (T := T) (Phi n 4) (spec_l18Draw_Ls n) spec_l18Draw_ann n Try.f29 (sg 29) [.ptr 120 c0, vA T 3 stacks1, vA T 3 boxes2] spec_l18Draw_dec = spec_l18Draw n c0 stacks1 boxes2 := by kernel_rfl
theorem spec_l18Draw_lo (n : Nat) : LoopsOk (T := T) (Phi n 4) (spec_l18Draw_Ls n) spec_l18Draw_ann n spec_l18Draw_code := loopsOk_all (cs := [spec_l18Draw_4_c, spec_l18Draw_11_c, spec_l18Draw_14_c]) (by kernel_rfl) ⟨⟨_, by kernel_rfl, spec_l18Draw_4_le n⟩, ⟨_, by kernel_rfl, spec_l18Draw_11_le n⟩, ⟨_, by kernel_rfl, spec_l18Draw_14_le n⟩, trivial⟩
theorem spec_l18Draw_ok (n : Nat) : EntOk Try.prog (ents n) (spec_l18Draw_ent n) := by
  intro hs ar y hg h
  replace h : spec_l18Draw_D n ar = some y := h
  unfold spec_l18Draw_D at h
  replace h := ocons_some h
  obtain ⟨a0, r0, rfl, h⟩ := h
  replace h := ocons_some h
  obtain ⟨a1, r1, rfl, h⟩ := h
  replace h := ocons_some h
  obtain ⟨a2, r2, rfl, h⟩ := h
  replace h := onil_some h
  obtain ⟨rfl, h⟩ := h
  obtain ⟨c0, qh0, h⟩ := obind_some h
  obtain ⟨stacks1, qh1, h⟩ := obind_some h
  obtain ⟨boxes2, qh2, h⟩ := obind_some h
  rw [argP_eq qh0, argV_eq ok qh1, argV_eq ok qh2]
  exact call_of (phiE_nat _ _) hs ok mixed Try.func29 (c := spec_l18Draw_code) (by kernel_rfl) (spec_l18Draw_lo n) (by kernel_rfl) (by kernel_rfl) (by kernel_rfl) spec_l18Draw_de ((spec_l18Draw_tie n c0 stacks1 boxes2).trans h)
noncomputable def spec_l1PickInt_code : Code := match Try.f80.body with | some c => c | none => .skip
def spec_l1PickInt_ann : Ann := fun id => none
def spec_l1PickInt_Ls (n : Nat) : Nat → Option (LSpec T) := fun id => none
theorem spec_l1PickInt_tie (n : Nat) (c0 : Sl1Cur) (list1 : List Int) : evF (T := T) (Phi n 5) (spec_l1PickInt_Ls n) spec_l1PickInt_ann n Try.f80 (sg 80) [.ptr 120 c0, vA T 30 list1] spec_l1PickInt_dec = spec_l1PickInt n c0 list1 := by kernel_rfl
theorem spec_l1PickInt_lo (n : Nat) : LoopsOk (T := T) (Phi n 5) (spec_l1PickInt_Ls n) spec_l1PickInt_ann n spec_l1PickInt_code := loopsOk_all (cs := []) (by kernel_rfl) trivial
theorem spec_l1PickInt_ok (n : Nat) : EntOk Try.prog (ents n) (spec_l1PickInt_ent n) := by
  intro hs ar y hg h
  replace h : spec_l1PickInt_D n ar = some y := h
  unfold spec_l1PickInt_D at h
  replace h := ocons_some h
  obtain ⟨a0, r0, rfl, h⟩ := h
  replace h := ocons_some h
  obtain ⟨a1, r1, rfl, h⟩ := h
  replace h := onil_some h
  obtain ⟨rfl, h⟩ := h
  obtain ⟨c0, qh0, h⟩ := obind_some h
  obtain ⟨list1, qh1, h⟩ := obind_some h
  rw [argP_eq qh0, argV_eq ok qh1]
  exact call_of (phiE_nat _ _) hs ok mixed Try.func80 (c := spec_l1PickInt_code) (by kernel_rfl) (spec_l1PickInt_lo n) (by kernel_rfl) (by kernel_rfl) (by kernel_rfl) spec_l1PickInt_de ((spec_l1PickInt_tie n c0 list1).trans h)
noncomputable def spec_l18DrawOp_code : Code := match Try.f31.body with | some c => c | none => .skip
def spec_l18DrawOp_ann : Ann := fun id => none
def spec_l18DrawOp_Ls (n : Nat) : Nat → Option (LSpec T) := fun id => none
theorem spec_l18DrawOp_tie (n : Nat) (c0 : Sl1Cur) : evF (T := T) (Phi n 6) (spec_l18DrawOp_Ls n) spec_l18DrawOp_ann n Try.f31 (sg 31) [.ptr 120 c0] spec_l18DrawOp_dec = spec_l18DrawOp n c0 := by kernel_rfl
theorem spec_l18DrawOp_lo (n : Nat) : LoopsOk (T := T) (Phi n 6) (spec_l18DrawOp_Ls n) spec_l18DrawOp_ann n spec_l18DrawOp_code := loopsOk_all (cs := []) (by kernel_rfl) trivial
theorem spec_l18DrawOp_ok (n : Nat) : EntOk Try.prog (ents n) (spec_l18DrawOp_ent n) := by
  intro hs ar y hg h
  replace h : spec_l18DrawOp_D n ar = some y := h
  unfold spec_l18DrawOp_D at h
  replace h := ocons_some h
  obtain ⟨a0, r0, rfl, h⟩ := h
  replace h := onil_some h
  obtain ⟨rfl, h⟩ := h
  obtain ⟨c0, qh0, h⟩ := obind_some h
  rw [argP_eq qh0]
  exact call_of (phiE_nat _ _) hs ok mixed Try.func31 (c := spec_l18DrawOp_code) (by kernel_rfl) (spec_l18DrawOp_lo n) (by kernel_rfl) (by kernel_rfl) (by kernel_rfl) spec_l18DrawOp_de ((spec_l18DrawOp_tie n c0).trans h)
noncomputable def spec_DrawYard_code : Code := match Try.f7.body with | some c => c | none => .skip
def spec_DrawYard_5_sv : List Sv := [.one (.ptr 16 0 0), .one (.ptr 72 0 0), .one (.ptr 40 0 0), .one (.own 3000000 75 false), .one (.int .i64)]
def spec_DrawYard_5_so : List So := [.var [.int .i64, .own 3000001 30 false], .arr 30 false, .var [.arr 5, .int .i64, .int .i64], .var [.int .i64, .own 3000002 30 false], .arr 30 false, .arr 75 false]
def spec_DrawYard_5_emb (c : Int × List (List Int) × Int × List (List Int)) (x : Int × Sl1Cur × List SYardOp) : EVs T spec_DrawYard_5_sv × EOs T spec_DrawYard_5_so := (((), (), (), (), x.1, ()), ((c.1, (), ()), c.2.1, (x.2.1.b, x.2.1.i, x.2.1.h, ()), (c.2.2.1, (), ()), c.2.2.2, x.2.2, ()))
def spec_DrawYard_5_prj (y : EVs T spec_DrawYard_5_sv × EOs T spec_DrawYard_5_so) : (Int × List (List Int) × Int × List (List Int)) × (Int × Sl1Cur × List SYardOp) := ((y.2.1.1, y.2.2.1, y.2.2.2.2.1.1, y.2.2.2.2.2.1), (y.1.2.2.2.2.1, ((⟨y.2.2.2.1.1, y.2.2.2.1.2.1, y.2.2.2.1.2.2.1⟩ : Sl1Cur) : Sl1Cur), y.2.2.2.2.2.2.1))
def spec_DrawYard_5_b (n : Nat) {R : Type} (K : Ex → Sm.St T → Option R) (c : Int × List (List Int) × Int × List (List Int)) (x : Int × Sl1Cur × List SYardOp) (J : (Int × Sl1Cur × List SYardOp) → Option R) : Option R :=
  spec_DrawYard_L5 n (fun (y4 : List SYardOp) => K (.exit 0) (stOf (T := T) [2, 5, 6] [16, 3000001, 40, 3000002, 3000000] [.one (.ptr 16 0 0), .one (.ptr 40 0 0), .one (.own 3000000 75 false)] [.var [.int .i64, .own 3000001 30 false], .arr 30 false, .var [.int .i64, .own 3000002 30 false], .arr 30 false, .arr 75 false] ((), (), (), ()) ((c.1, (), ()), c.2.1, (c.2.2.1, (), ()), c.2.2.2, y4, ()))) (fun z0 z1 z2 => J (z0, z1, z2)) x.1 c.1 c.2.1 x.2.1 c.2.2.1 c.2.2.2 x.2.2
def spec_DrawYard_5_sp (n : Nat) : LSpec T := mkSpec T ⟨[((.reg 6), 3000000, 75), ((.cell 16 1), 3000001, 30), ((.cell 40 1), 3000002, 30)], [2, 4, 5, 6, 7], [16, 3000001, 72, 40, 3000002, 3000000]⟩ spec_DrawYard_5_sv spec_DrawYard_5_so (Int × List (List Int) × Int × List (List Int)) (Int × Sl1Cur × List SYardOp) spec_DrawYard_5_emb spec_DrawYard_5_prj (spec_DrawYard_5_b n)
noncomputable def spec_DrawYard_5_c : Code := ((loopCodes spec_DrawYard_code)[0]?).getD .skip
def spec_DrawYard_ann : Ann := fun id => bif Nat.beq id 3000005 then some ⟨[((.reg 6), 3000000, 75), ((.cell 16 1), 3000001, 30), ((.cell 40 1), 3000002, 30)], [2, 5, 6], [16, 3000001, 40, 3000002, 3000000]⟩ else none
def spec_DrawYard_Ls (n : Nat) : Nat → Option (LSpec T) := fun id => bif Nat.beq id 5 then some (spec_DrawYard_5_sp n) else none
theorem spec_DrawYard_5_le (n : Nat) : LoopEq (T := T) (Phi n 7) (spec_DrawYard_Ls n) spec_DrawYard_ann n spec_DrawYard_5_c (spec_DrawYard_5_sp n) := ⟨mkSpec_dec (fun y => rfl), fun c x => by kernel_rfl, fun K J c x => by kernel_rfl⟩
theorem spec_DrawYard_tie (n : Nat) (code0 : List Int) : evF (T := T) (Phi n 7) (spec_DrawYard_Ls n) spec_DrawYard_ann n Try.f7 (sg 7) [vA T 22 code0] spec_DrawYard_dec = spec_DrawYard n code0 := by kernel_rfl
theorem spec_DrawYard_lo (n : Nat) : LoopsOk (T := T) (Phi n 7) (spec_DrawYard_Ls n) spec_DrawYard_ann n spec_DrawYard_code := loopsOk_all (cs := [spec_DrawYard_5_c]) (by kernel_rfl) ⟨⟨_, by kernel_rfl, spec_DrawYard_5_le n⟩, trivial⟩
theorem spec_DrawYard_ok (n : Nat) : EntOk Try.prog (ents n) (spec_DrawYard_ent n) := by
  intro hs ar y hg h
  replace h : spec_DrawYard_D n ar = some y := h
  unfold spec_DrawYard_D at h
  replace h := ocons_some h
  obtain ⟨a0, r0, rfl, h⟩ := h
  replace h := onil_some h
  obtain ⟨rfl, h⟩ := h
  obtain ⟨code0, qh0, h⟩ := obind_some h
  rw [argV_eq ok qh0]
  exact call_of (phiE_nat _ _) hs ok mixed Try.func7 (c := spec_DrawYard_code) (by kernel_rfl) (spec_DrawYard_lo n) (by kernel_rfl) (by kernel_rfl) (by kernel_rfl) spec_DrawYard_de ((spec_DrawYard_tie n code0).trans h)
noncomputable def impl_own_int_code : Code := match Try.f81.body with | some c => c | none => .skip
def impl_own_int_ann : Ann := fun id => none
def impl_own_int_Ls (n : Nat) : Nat → Option (LSpec T) := fun id => none
theorem impl_own_int_tie (n : Nat) (l0 : List (List Int)) : evF (T := T) (Phi n 8) (impl_own_int_Ls n) impl_own_int_ann n Try.f81 (sg 81) [vA T 24 l0] impl_own_int_dec = impl_own_int n l0 := by kernel_rfl
theorem impl_own_int_lo (n : Nat) : LoopsOk (T := T) (Phi n 8) (impl_own_int_Ls n) impl_own_int_ann n impl_own_int_code := loopsOk_all (cs := []) (by kernel_rfl) trivial
theorem impl_own_int_ok (n : Nat) : EntOk Try.prog (ents n) (impl_own_int_ent n) := by
  intro hs ar y hg h
  replace h : impl_own_int_D n ar = some y := h
  unfold impl_own_int_D at h
  replace h := ocons_some h
  obtain ⟨a0, r0, rfl, h⟩ := h
  replace h := onil_some h
  obtain ⟨rfl, h⟩ := h
  obtain ⟨l0, qh0, h⟩ := obind_some h
  rw [argV_eq ok qh0]
  exact call_of (phiE_nat _ _) hs ok mixed Try.func81 (c := impl_own_int_code) (by kernel_rfl) (impl_own_int_lo n) (by kernel_rfl) (by kernel_rfl) (by kernel_rfl) impl_own_int_de ((impl_own_int_tie n l0).trans h)
noncomputable def impl_own_int_f34_code : Code := match Try.f34.body with | some c => c | none => .skip
def impl_own_int_f34_ann : Ann := fun id => none
def impl_own_int_f34_Ls (n : Nat) : Nat → Option (LSpec T) := fun id => none
theorem impl_own_int_f34_tie (n : Nat) (l0 : List Int) : evF (T := T) (Phi n 9) (impl_own_int_f34_Ls n) impl_own_int_f34_ann n Try.f34 (sg 34) [vA T 30 l0] impl_own_int_f34_dec = impl_own_int_f34 n l0 := by kernel_rfl
theorem impl_own_int_f34_lo (n : Nat) : LoopsOk (T := T) (Phi n 9) (impl_own_int_f34_Ls n) impl_own_int_f34_ann n impl_own_int_f34_code := loopsOk_all (cs := []) (by kernel_rfl) trivial
theorem impl_own_int_f34_ok (n : Nat) : EntOk Try.prog (ents n) (impl_own_int_f34_ent n) := by
  intro hs ar y hg h
  replace h : impl_own_int_f34_D n ar = some y := h
  unfold impl_own_int_f34_D at h
  replace h := ocons_some h
  obtain ⟨a0, r0, rfl, h⟩ := h
  replace h := onil_some h
  obtain ⟨rfl, h⟩ := h
  obtain ⟨l0, qh0, h⟩ := obind_some h
  rw [argV_eq ok qh0]
  exact call_of (phiE_nat _ _) hs ok mixed Try.func34 (c := impl_own_int_f34_code) (by kernel_rfl) (impl_own_int_f34_lo n) (by kernel_rfl) (by kernel_rfl) (by kernel_rfl) impl_own_int_f34_de ((impl_own_int_f34_tie n l0).trans h)
noncomputable def impl_Yard_own_code : Code := match Try.f32.body with | some c => c | none => .skip
def impl_Yard_own_3_sv : List Sv := [.one (.ptr 8 0 0), .one (.ptr 16 0 0), .one (.own 3000000 30 false), .one (.int .i64), .one (.int .i64)]
def impl_Yard_own_3_so : List So := [.var [.int .i64, .arr 30], .var [.int .i64, .own 3000001 30 false], .arr 30 false, .arrU 30 false]
def impl_Yard_own_3_emb (c : Int × SYard × Int × List (List Int)) (x : Int × ((List (List Int)) × Nat)) : EVs T impl_Yard_own_3_sv × EOs T impl_Yard_own_3_so := (((), (), (), c.1, x.1, ()), ((c.2.1.High, c.2.1.Stacks, ()), (c.2.2.1, (), ()), c.2.2.2, x.2, ()))
def impl_Yard_own_3_prj (y : EVs T impl_Yard_own_3_sv × EOs T impl_Yard_own_3_so) : (Int × SYard × Int × List (List Int)) × (Int × ((List (List Int)) × Nat)) := ((y.1.2.2.2.1, ((⟨y.2.1.1, y.2.1.2.1⟩ : SYard) : SYard), y.2.2.1.1, y.2.2.2.1), (y.1.2.2.2.2.1, y.2.2.2.2.1))
def impl_Yard_own_3_b (n : Nat) {R : Type} (K : Ex → Sm.St T → Option R) (c : Int × SYard × Int × List (List Int)) (x : Int × ((List (List Int)) × Nat)) (J : (Int × ((List (List Int)) × Nat)) → Option R) : Option R :=
  impl_Yard_own_L3 n (fun (y3 : (List (List Int)) × Nat) => K (.exit 0) (stOf (T := T) [1, 2, 3] [8, 16, 3000001, 3000000] [.one (.ptr 8 0 0), .one (.ptr 16 0 0), .one (.own 3000000 30 false)] [.var [.int .i64, .arr 30], .var [.int .i64, .own 3000001 30 false], .arr 30 false, .arrU 30 false] ((), (), (), ()) ((c.2.1.High, c.2.1.Stacks, ()), (c.2.2.1, (), ()), c.2.2.2, y3, ()))) (fun z0 z1 => J (z0, z1)) c.1 x.1 c.2.1 c.2.2.1 c.2.2.2 x.2
def impl_Yard_own_3_sp (n : Nat) : LSpec T := mkSpec T ⟨[((.reg 3), 3000000, 30), ((.cell 16 1), 3000001, 30)], [1, 2, 3, 9, 10], [8, 16, 3000001, 3000000]⟩ impl_Yard_own_3_sv impl_Yard_own_3_so (Int × SYard × Int × List (List Int)) (Int × ((List (List Int)) × Nat)) impl_Yard_own_3_emb impl_Yard_own_3_prj (impl_Yard_own_3_b n)
noncomputable def impl_Yard_own_3_c : Code := ((loopCodes impl_Yard_own_code)[0]?).getD .skip
def impl_Yard_own_ann : Ann := fun id => bif Nat.beq id 3000003 then some ⟨[((.reg 3), 3000000, 30), ((.cell 16 1), 3000001, 30)], [1, 2, 3], [8, 16, 3000001, 3000000]⟩ else none
def impl_Yard_own_Ls (n : Nat) : Nat → Option (LSpec T) := fun id => bif Nat.beq id 3 then some (impl_Yard_own_3_sp n) else none
theorem impl_Yard_own_3_le (n : Nat) : LoopEq (T := T) (Phi n 10) (impl_Yard_own_Ls n) impl_Yard_own_ann n impl_Yard_own_3_c (impl_Yard_own_3_sp n) := ⟨mkSpec_dec (fun y => rfl), fun c x => by kernel_rfl, fun K J c x => by kernel_rfl⟩
theorem impl_Yard_own_tie (n : Nat) (y0 : SYard) : evF (T := T) (Phi n 10) (impl_Yard_own_Ls n) impl_Yard_own_ann n Try.f32 (sg 32) [vA T 26 y0] impl_Yard_own_dec = impl_Yard_own n y0 := by kernel_rfl
theorem impl_Yard_own_lo (n : Nat) : LoopsOk (T := T) (Phi n 10) (impl_Yard_own_Ls n) impl_Yard_own_ann n impl_Yard_own_code := loopsOk_all (cs := [impl_Yard_own_3_c]) (by kernel_rfl) ⟨⟨_, by kernel_rfl, impl_Yard_own_3_le n⟩, trivial⟩
theorem impl_Yard_own_ok (n : Nat) : EntOk Try.prog (ents n) (impl_Yard_own_ent n) := by
  intro hs ar y hg h
  replace h : impl_Yard_own_D n ar = some y := h
  unfold impl_Yard_own_D at h
  replace h := ocons_some h
  obtain ⟨a0, r0, rfl, h⟩ := h
  replace h := onil_some h
  obtain ⟨rfl, h⟩ := h
  obtain ⟨y0, qh0, h⟩ := obind_some h
  rw [argV_eq ok qh0]
  exact call_of (phiE_nat _ _) hs ok mixed Try.func32 (c := impl_Yard_own_code) (by kernel_rfl) (impl_Yard_own_lo n) (by kernel_rfl) (by kernel_rfl) (by kernel_rfl) impl_Yard_own_de ((impl_Yard_own_tie n y0).trans h)
noncomputable def impl_in_code : Code := match Try.f69.body with | some c => c | none => .skip
def impl_in_ann : Ann := fun id => none
def impl_in_Ls (n : Nat) : Nat → Option (LSpec T) := fun id => none
theorem impl_in_tie (n : Nat) (n0 : Int) (least1 : Int) (most2 : Int) : evF (T := T) (Phi n 11) (impl_in_Ls n) impl_in_ann n Try.f69 (sg 69) [vA T 3 n0, vA T 3 least1, vA T 3 most2] impl_in_dec = impl_in n n0 least1 most2 := by kernel_rfl
theorem impl_in_lo (n : Nat) : LoopsOk (T := T) (Phi n 11) (impl_in_Ls n) impl_in_ann n impl_in_code := loopsOk_all (cs := []) (by kernel_rfl) trivial
theorem impl_in_ok (n : Nat) : EntOk Try.prog (ents n) (impl_in_ent n) := by
  intro hs ar y hg h
  replace h : impl_in_D n ar = some y := h
  unfold impl_in_D at h
  replace h := ocons_some h
  obtain ⟨a0, r0, rfl, h⟩ := h
  replace h := ocons_some h
  obtain ⟨a1, r1, rfl, h⟩ := h
  replace h := ocons_some h
  obtain ⟨a2, r2, rfl, h⟩ := h
  replace h := onil_some h
  obtain ⟨rfl, h⟩ := h
  obtain ⟨n0, qh0, h⟩ := obind_some h
  obtain ⟨least1, qh1, h⟩ := obind_some h
  obtain ⟨most2, qh2, h⟩ := obind_some h
  rw [argV_eq ok qh0, argV_eq ok qh1, argV_eq ok qh2]
  exact call_of (phiE_nat _ _) hs ok mixed Try.func69 (c := impl_in_code) (by kernel_rfl) (impl_in_lo n) (by kernel_rfl) (by kernel_rfl) (by kernel_rfl) impl_in_de ((impl_in_tie n n0 least1 most2).trans h)
noncomputable def impl_idRight_code : Code := match Try.f83.body with | some c => c | none => .skip
def impl_idRight_ann : Ann := fun id => none
def impl_idRight_Ls (n : Nat) : Nat → Option (LSpec T) := fun id => none
theorem impl_idRight_tie (n : Nat) (n0 : Int) : evF (T := T) (Phi n 12) (impl_idRight_Ls n) impl_idRight_ann n Try.f83 (sg 83) [vA T 3 n0] impl_idRight_dec = impl_idRight n n0 := by kernel_rfl
theorem impl_idRight_lo (n : Nat) : LoopsOk (T := T) (Phi n 12) (impl_idRight_Ls n) impl_idRight_ann n impl_idRight_code := loopsOk_all (cs := []) (by kernel_rfl) trivial
theorem impl_idRight_ok (n : Nat) : EntOk Try.prog (ents n) (impl_idRight_ent n) := by
  intro hs ar y hg h
  replace h : impl_idRight_D n ar = some y := h
  unfold impl_idRight_D at h
  replace h := ocons_some h
  obtain ⟨a0, r0, rfl, h⟩ := h
  replace h := onil_some h
  obtain ⟨rfl, h⟩ := h
  obtain ⟨n0, qh0, h⟩ := obind_some h
  rw [argV_eq ok qh0]
  exact call_of (phiE_nat _ _) hs ok mixed Try.func83 (c := impl_idRight_code) (by kernel_rfl) (impl_idRight_lo n) (by kernel_rfl) (by kernel_rfl) (by kernel_rfl) impl_idRight_de ((impl_idRight_tie n n0).trans h)
noncomputable def impl_YardOk_code : Code := match Try.f82.body with | some c => c | none => .skip
def impl_YardOk_5_sv : List Sv := [.one (.ptr 8 0 0), .one (.map 152), .one (.arr 30), .one (.int .i64), .one (.int .i64)]
def impl_YardOk_5_so : List So := [.var [.int .i64, .arr 30], .map 3 4]
def impl_YardOk_5_emb (c : List (List Int) × Int × SYard) (x : Int × (List (Int × Bool))) : EVs T impl_YardOk_5_sv × EOs T impl_YardOk_5_so := (((), (), c.1, c.2.1, x.1, ()), ((c.2.2.High, c.2.2.Stacks, ()), x.2, ()))
def impl_YardOk_5_prj (y : EVs T impl_YardOk_5_sv × EOs T impl_YardOk_5_so) : (List (List Int) × Int × SYard) × (Int × (List (Int × Bool))) := ((y.1.2.2.1, y.1.2.2.2.1, ((⟨y.2.1.1, y.2.1.2.1⟩ : SYard) : SYard)), (y.1.2.2.2.2.1, y.2.2.1))
def impl_YardOk_5_b (n : Nat) {R : Type} (K : Ex → Sm.St T → Option R) (c : List (List Int) × Int × SYard) (x : Int × (List (Int × Bool))) (J : (Int × (List (Int × Bool))) → Option R) : Option R :=
  impl_YardOk_L5 n (K (.exit 0) (stOf (T := T) [] [] [] [] () ())) (fun (y0 : Bool) => K .ret (stOf (T := T) [2] [] [.one (.bool)] [] (y0, ()) ())) (fun z0 z1 => J (z0, z1)) c.1 c.2.1 x.1 c.2.2 x.2
def impl_YardOk_5_sp (n : Nat) : LSpec T := mkSpec T ⟨[], [1, 3, 21, 22, 23], [8, 152]⟩ impl_YardOk_5_sv impl_YardOk_5_so (List (List Int) × Int × SYard) (Int × (List (Int × Bool))) impl_YardOk_5_emb impl_YardOk_5_prj (impl_YardOk_5_b n)
noncomputable def impl_YardOk_5_c : Code := ((loopCodes impl_YardOk_code)[0]?).getD .skip
def impl_YardOk_10_sv : List Sv := [.one (.ptr 8 0 0), .one (.map 152), .one (.arr 30), .one (.int .i64), .one (.int .i64), .one (.arr 3), .one (.int .i64), .one (.int .i64)]
def impl_YardOk_10_so : List So := [.var [.int .i64, .arr 30], .map 3 4]
def impl_YardOk_10_emb (c : List (List Int) × Int × Int × List Int × Int × SYard) (x : Int × (List (Int × Bool))) : EVs T impl_YardOk_10_sv × EOs T impl_YardOk_10_so := (((), (), c.1, c.2.1, c.2.2.1, c.2.2.2.1, c.2.2.2.2.1, x.1, ()), ((c.2.2.2.2.2.High, c.2.2.2.2.2.Stacks, ()), x.2, ()))
def impl_YardOk_10_prj (y : EVs T impl_YardOk_10_sv × EOs T impl_YardOk_10_so) : (List (List Int) × Int × Int × List Int × Int × SYard) × (Int × (List (Int × Bool))) := ((y.1.2.2.1, y.1.2.2.2.1, y.1.2.2.2.2.1, y.1.2.2.2.2.2.1, y.1.2.2.2.2.2.2.1, ((⟨y.2.1.1, y.2.1.2.1⟩ : SYard) : SYard)), (y.1.2.2.2.2.2.2.2.1, y.2.2.1))
def impl_YardOk_10_b (n : Nat) {R : Type} (K : Ex → Sm.St T → Option R) (c : List (List Int) × Int × Int × List Int × Int × SYard) (x : Int × (List (Int × Bool))) (J : (Int × (List (Int × Bool))) → Option R) : Option R :=
  impl_YardOk_L10 n (fun (y4 : List (Int × Bool)) => K (.exit 2) (stOf (T := T) [1, 3, 21, 22, 23] [8, 152] [.one (.ptr 8 0 0), .one (.map 152), .one (.arr 30), .one (.int .i64), .one (.int .i64)] [.var [.int .i64, .arr 30], .map 3 4] ((), (), c.1, c.2.1, c.2.2.1, ()) ((c.2.2.2.2.2.High, c.2.2.2.2.2.Stacks, ()), y4, ()))) (fun (y0 : Bool) => K .ret (stOf (T := T) [2] [] [.one (.bool)] [] (y0, ()) ())) (fun z0 z1 => J (z0, z1)) c.1 c.2.1 c.2.2.1 c.2.2.2.1 c.2.2.2.2.1 x.1 c.2.2.2.2.2 x.2
def impl_YardOk_10_sp (n : Nat) : LSpec T := mkSpec T ⟨[], [1, 3, 21, 22, 23, 32, 33, 34], [8, 152]⟩ impl_YardOk_10_sv impl_YardOk_10_so (List (List Int) × Int × Int × List Int × Int × SYard) (Int × (List (Int × Bool))) impl_YardOk_10_emb impl_YardOk_10_prj (impl_YardOk_10_b n)
noncomputable def impl_YardOk_10_c : Code := ((loopCodes impl_YardOk_code)[1]?).getD .skip
def impl_YardOk_ann : Ann := fun id => bif Nat.beq id 3000005 then some ⟨[], [], []⟩ else bif Nat.beq id 2000005 then some ⟨[], [2], []⟩ else bif Nat.beq id 5000010 then some ⟨[], [1, 3, 21, 22, 23], [8, 152]⟩ else bif Nat.beq id 2000010 then some ⟨[], [2], []⟩ else none
def impl_YardOk_Ls (n : Nat) : Nat → Option (LSpec T) := fun id => bif Nat.beq id 5 then some (impl_YardOk_5_sp n) else bif Nat.beq id 10 then some (impl_YardOk_10_sp n) else none
theorem impl_YardOk_5_le (n : Nat) : LoopEq (T := T) (Phi n 13) (impl_YardOk_Ls n) impl_YardOk_ann n impl_YardOk_5_c (impl_YardOk_5_sp n) := ⟨mkSpec_dec (fun y => rfl), fun c x => by kernel_rfl, fun K J c x => by kernel_rfl⟩
theorem impl_YardOk_10_le (n : Nat) : LoopEq (T := T) (Phi n 13) (impl_YardOk_Ls n) impl_YardOk_ann n impl_YardOk_10_c (impl_YardOk_10_sp n) := ⟨mkSpec_dec (fun y => rfl), fun c x => by kernel_rfl, fun K J c x => by kernel_rfl⟩
theorem impl_YardOk_tie (n : Nat) (y0 : SYard) : evF (T := T) (Phi n 13) (impl_YardOk_Ls n) impl_YardOk_ann n Try.f82 (sg 82) [vA T 26 y0] impl_YardOk_dec = impl_YardOk n y0 := by kernel_rfl
theorem impl_YardOk_lo (n : Nat) : LoopsOk (T := T) (Phi n 13) (impl_YardOk_Ls n) impl_YardOk_ann n impl_YardOk_code := loopsOk_all (cs := [impl_YardOk_5_c, impl_YardOk_10_c]) (by kernel_rfl) ⟨⟨_, by kernel_rfl, impl_YardOk_5_le n⟩, ⟨_, by kernel_rfl, impl_YardOk_10_le n⟩, trivial⟩
theorem impl_YardOk_ok (n : Nat) : EntOk Try.prog (ents n) (impl_YardOk_ent n) := by
  intro hs ar y hg h
  replace h : impl_YardOk_D n ar = some y := h
  unfold impl_YardOk_D at h
  replace h := ocons_some h
  obtain ⟨a0, r0, rfl, h⟩ := h
  replace h := onil_some h
  obtain ⟨rfl, h⟩ := h
  obtain ⟨y0, qh0, h⟩ := obind_some h
  rw [argV_eq ok qh0]
  exact call_of (phiE_nat _ _) hs ok mixed Try.func82 (c := impl_YardOk_code) (by kernel_rfl) (impl_YardOk_lo n) (by kernel_rfl) (by kernel_rfl) (by kernel_rfl) impl_YardOk_de ((impl_YardOk_tie n y0).trans h)
noncomputable def slices_Index_int_int_code : Code := match Try.f114.body with | some c => c | none => .skip
def slices_Index_int_int_2_sv : List Sv := [.one (.arr 3), .one (.int .i64), .one (.int .i64), .one (.int .i64)]
def slices_Index_int_int_2_so : List So := []
def slices_Index_int_int_2_emb (c : List Int × Int × Int) (x : Int) : EVs T slices_Index_int_int_2_sv × EOs T slices_Index_int_int_2_so := ((c.1, c.2.1, c.2.2, x, ()), ())
def slices_Index_int_int_2_prj (y : EVs T slices_Index_int_int_2_sv × EOs T slices_Index_int_int_2_so) : (List Int × Int × Int) × Int := ((y.1.1, y.1.2.1, y.1.2.2.1), (y.1.2.2.2.1))
def slices_Index_int_int_2_b (n : Nat) {R : Type} (K : Ex → Sm.St T → Option R) (c : List Int × Int × Int) (x : Int) (J : Int → Option R) : Option R :=
  slices_Index_int_int_L2 n (K (.exit 0) (stOf (T := T) [] [] [] [] () ())) (fun (y0 : Int) => K .ret (stOf (T := T) [4] [] [.one (.int .i64)] [] (y0, ()) ())) J c.1 c.2.1 c.2.2 x
def slices_Index_int_int_2_sp (n : Nat) : LSpec T := mkSpec T ⟨[], [0, 1, 7, 8], []⟩ slices_Index_int_int_2_sv slices_Index_int_int_2_so (List Int × Int × Int) (Int) slices_Index_int_int_2_emb slices_Index_int_int_2_prj (slices_Index_int_int_2_b n)
noncomputable def slices_Index_int_int_2_c : Code := ((loopCodes slices_Index_int_int_code)[0]?).getD .skip
def slices_Index_int_int_ann : Ann := fun id => bif Nat.beq id 3000002 then some ⟨[], [], []⟩ else bif Nat.beq id 2000002 then some ⟨[], [4], []⟩ else none
def slices_Index_int_int_Ls (n : Nat) : Nat → Option (LSpec T) := fun id => bif Nat.beq id 2 then some (slices_Index_int_int_2_sp n) else none
theorem slices_Index_int_int_2_le (n : Nat) : LoopEq (T := T) (Phi n 14) (slices_Index_int_int_Ls n) slices_Index_int_int_ann n slices_Index_int_int_2_c (slices_Index_int_int_2_sp n) := ⟨mkSpec_dec (fun y => rfl), fun c x => by kernel_rfl, fun K J c x => by kernel_rfl⟩
theorem slices_Index_int_int_tie (n : Nat) (s0 : List Int) (v1 : Int) : evF (T := T) (Phi n 14) (slices_Index_int_int_Ls n) slices_Index_int_int_ann n Try.f114 (sg 114) [vA T 30 s0, vA T 3 v1] slices_Index_int_int_dec = slices_Index_int_int n s0 v1 := by kernel_rfl
theorem slices_Index_int_int_lo (n : Nat) : LoopsOk (T := T) (Phi n 14) (slices_Index_int_int_Ls n) slices_Index_int_int_ann n slices_Index_int_int_code := loopsOk_all (cs := [slices_Index_int_int_2_c]) (by kernel_rfl) ⟨⟨_, by kernel_rfl, slices_Index_int_int_2_le n⟩, trivial⟩
theorem slices_Index_int_int_ok (n : Nat) : EntOk Try.prog (ents n) (slices_Index_int_int_ent n) := by
  intro hs ar y hg h
  replace h : slices_Index_int_int_D n ar = some y := h
  unfold slices_Index_int_int_D at h
  replace h := ocons_some h
  obtain ⟨a0, r0, rfl, h⟩ := h
  replace h := ocons_some h
  obtain ⟨a1, r1, rfl, h⟩ := h
  replace h := onil_some h
  obtain ⟨rfl, h⟩ := h
  obtain ⟨s0, qh0, h⟩ := obind_some h
  obtain ⟨v1, qh1, h⟩ := obind_some h
  rw [argV_eq ok qh0, argV_eq ok qh1]
  exact call_of (phiE_nat _ _) hs ok mixed Try.func114 (c := slices_Index_int_int_code) (by kernel_rfl) (slices_Index_int_int_lo n) (by kernel_rfl) (by kernel_rfl) (by kernel_rfl) slices_Index_int_int_de ((slices_Index_int_int_tie n s0 v1).trans h)
noncomputable def impl_FindBox_code : Code := match Try.f84.body with | some c => c | none => .skip
def impl_FindBox_3_sv : List Sv := [.one (.int .i64), .one (.arr 30), .one (.int .i64), .one (.int .i64)]
def impl_FindBox_3_so : List So := []
def impl_FindBox_3_emb (c : Int × List (List Int) × Int) (x : Int) : EVs T impl_FindBox_3_sv × EOs T impl_FindBox_3_so := ((c.1, c.2.1, c.2.2, x, ()), ())
def impl_FindBox_3_prj (y : EVs T impl_FindBox_3_sv × EOs T impl_FindBox_3_so) : (Int × List (List Int) × Int) × Int := ((y.1.1, y.1.2.1, y.1.2.2.1), (y.1.2.2.2.1))
def impl_FindBox_3_b (n : Nat) {R : Type} (K : Ex → Sm.St T → Option R) (c : Int × List (List Int) × Int) (x : Int) (J : Int → Option R) : Option R :=
  impl_FindBox_L3 n (K (.exit 0) (stOf (T := T) [] [] [] [] () ())) (fun (y0 : Int) (y1 : Int) (y2 : Bool) => K .ret (stOf (T := T) [4, 5, 6] [] [.one (.int .i64), .one (.int .i64), .one (.bool)] [] (y0, y1, y2, ()) ())) J c.1 c.2.1 c.2.2 x
def impl_FindBox_3_sp (n : Nat) : LSpec T := mkSpec T ⟨[], [1, 13, 14, 15], []⟩ impl_FindBox_3_sv impl_FindBox_3_so (Int × List (List Int) × Int) (Int) impl_FindBox_3_emb impl_FindBox_3_prj (impl_FindBox_3_b n)
noncomputable def impl_FindBox_3_c : Code := ((loopCodes impl_FindBox_code)[0]?).getD .skip
def impl_FindBox_ann : Ann := fun id => bif Nat.beq id 3000003 then some ⟨[], [], []⟩ else bif Nat.beq id 2000003 then some ⟨[], [4, 5, 6], []⟩ else none
def impl_FindBox_Ls (n : Nat) : Nat → Option (LSpec T) := fun id => bif Nat.beq id 3 then some (impl_FindBox_3_sp n) else none
theorem impl_FindBox_3_le (n : Nat) : LoopEq (T := T) (Phi n 15) (impl_FindBox_Ls n) impl_FindBox_ann n impl_FindBox_3_c (impl_FindBox_3_sp n) := ⟨mkSpec_dec (fun y => rfl), fun c x => by kernel_rfl, fun K J c x => by kernel_rfl⟩
theorem impl_FindBox_tie (n : Nat) (y0 : SYard) (box1 : Int) : evF (T := T) (Phi n 15) (impl_FindBox_Ls n) impl_FindBox_ann n Try.f84 (sg 84) [vA T 26 y0, vA T 3 box1] impl_FindBox_dec = impl_FindBox n y0 box1 := by kernel_rfl
theorem impl_FindBox_lo (n : Nat) : LoopsOk (T := T) (Phi n 15) (impl_FindBox_Ls n) impl_FindBox_ann n impl_FindBox_code := loopsOk_all (cs := [impl_FindBox_3_c]) (by kernel_rfl) ⟨⟨_, by kernel_rfl, impl_FindBox_3_le n⟩, trivial⟩
theorem impl_FindBox_ok (n : Nat) : EntOk Try.prog (ents n) (impl_FindBox_ent n) := by
  intro hs ar y hg h
  replace h : impl_FindBox_D n ar = some y := h
  unfold impl_FindBox_D at h
  replace h := ocons_some h
  obtain ⟨a0, r0, rfl, h⟩ := h
  replace h := ocons_some h
  obtain ⟨a1, r1, rfl, h⟩ := h
  replace h := onil_some h
  obtain ⟨rfl, h⟩ := h
  obtain ⟨y0, qh0, h⟩ := obind_some h
  obtain ⟨box1, qh1, h⟩ := obind_some h
  rw [argV_eq ok qh0, argV_eq ok qh1]
  exact call_of (phiE_nat _ _) hs ok mixed Try.func84 (c := impl_FindBox_code) (by kernel_rfl) (impl_FindBox_lo n) (by kernel_rfl) (by kernel_rfl) (by kernel_rfl) impl_FindBox_de ((impl_FindBox_tie n y0 box1).trans h)
noncomputable def impl_Yard_lift_code : Code := match Try.f85.body with | some c => c | none => .skip
def impl_Yard_lift_ann : Ann := fun id => none
def impl_Yard_lift_Ls (n : Nat) : Nat → Option (LSpec T) := fun id => none
theorem impl_Yard_lift_tie (n : Nat) (y0 : SYard) (from1 : Int) (to2 : Int) : evF (T := T) (Phi n 16) (impl_Yard_lift_Ls n) impl_Yard_lift_ann n Try.f85 (sg 85) [vA T 26 y0, vA T 3 from1, vA T 3 to2] impl_Yard_lift_dec = impl_Yard_lift n y0 from1 to2 := by kernel_rfl
theorem impl_Yard_lift_lo (n : Nat) : LoopsOk (T := T) (Phi n 16) (impl_Yard_lift_Ls n) impl_Yard_lift_ann n impl_Yard_lift_code := loopsOk_all (cs := []) (by kernel_rfl) trivial
theorem impl_Yard_lift_ok (n : Nat) : EntOk Try.prog (ents n) (impl_Yard_lift_ent n) := by
  intro hs ar y hg h
  replace h : impl_Yard_lift_D n ar = some y := h
  unfold impl_Yard_lift_D at h
  replace h := ocons_some h
  obtain ⟨a0, r0, rfl, h⟩ := h
  replace h := ocons_some h
  obtain ⟨a1, r1, rfl, h⟩ := h
  replace h := ocons_some h
  obtain ⟨a2, r2, rfl, h⟩ := h
  replace h := onil_some h
  obtain ⟨rfl, h⟩ := h
  obtain ⟨y0, qh0, h⟩ := obind_some h
  obtain ⟨from1, qh1, h⟩ := obind_some h
  obtain ⟨to2, qh2, h⟩ := obind_some h
  rw [argV_eq ok qh0, argV_eq ok qh1, argV_eq ok qh2]
  exact call_of (phiE_nat _ _) hs ok mixed Try.func85 (c := impl_Yard_lift_code) (by kernel_rfl) (impl_Yard_lift_lo n) (by kernel_rfl) (by kernel_rfl) (by kernel_rfl) impl_Yard_lift_de ((impl_Yard_lift_tie n y0 from1 to2).trans h)
noncomputable def impl_DoYard_code : Code := match Try.f33.body with | some c => c | none => .skip
def impl_DoYard_25_sv : List Sv := [.one (.ptr 16 0 0), .one (.ptr 32 0 0), .one (.ptr 56 0 0), .one (.ptr 72 0 0), .one (.int .i64), .one (.int .i64), .one (.int .i64)]
def impl_DoYard_25_so : List So := [.var [.int .i64, .arr 30], .var [.int .i64, .own 3000000 30 false], .arr 30 false, .var [.int .i64, .own 3000001 30 false], .arr 30 false, .var [.int .i64, .own 3000002 30 false], .arr 30 false]
def impl_DoYard_25_emb (c : Int × Int × SYard × Int × List (List Int) × Int × List (List Int) × Int) (x : Int × List (List Int)) : EVs T impl_DoYard_25_sv × EOs T impl_DoYard_25_so := (((), (), (), (), c.1, c.2.1, x.1, ()), ((c.2.2.1.High, c.2.2.1.Stacks, ()), (c.2.2.2.1, (), ()), c.2.2.2.2.1, (c.2.2.2.2.2.1, (), ()), c.2.2.2.2.2.2.1, (c.2.2.2.2.2.2.2, (), ()), x.2, ()))
def impl_DoYard_25_prj (y : EVs T impl_DoYard_25_sv × EOs T impl_DoYard_25_so) : (Int × Int × SYard × Int × List (List Int) × Int × List (List Int) × Int) × (Int × List (List Int)) := ((y.1.2.2.2.2.1, y.1.2.2.2.2.2.1, ((⟨y.2.1.1, y.2.1.2.1⟩ : SYard) : SYard), y.2.2.1.1, y.2.2.2.1, y.2.2.2.2.1.1, y.2.2.2.2.2.1, y.2.2.2.2.2.2.1.1), (y.1.2.2.2.2.2.2.1, y.2.2.2.2.2.2.2.1))
def impl_DoYard_25_b (n : Nat) {R : Type} (K : Ex → Sm.St T → Option R) (c : Int × Int × SYard × Int × List (List Int) × Int × List (List Int) × Int) (x : Int × List (List Int)) (J : (Int × List (List Int)) → Option R) : Option R :=
  impl_DoYard_L25 n (fun (y2 : Int) (y6 : List (List Int)) => K (.exit 3) (stOf (T := T) [4, 9, 10, 11, 13] [32, 3000000, 72, 3000002] [.one (.ptr 32 0 0), .one (.ptr 72 0 0), .one (.int .i64), .one (.int .i64), .one (.int .i64)] [.var [.int .i64, .own 3000000 30 false], .arr 30 false, .var [.int .i64, .own 3000002 30 false], .arr 30 false] ((), (), c.1, c.2.1, y2, ()) ((c.2.2.2.1, (), ()), c.2.2.2.2.1, (c.2.2.2.2.2.2.2, (), ()), y6, ()))) (fun (y0 : Int) (y1 : Int) => K .ret (stOf (T := T) [4, 5, 6] [32, 3000000] [.one (.ptr 32 0 0), .one (.int .i64), .one (.int .i64)] [.var [.int .i64, .own 3000000 30 false], .arr 30 false] ((), y0, y1, ()) ((c.2.2.2.2.2.1, (), ()), c.2.2.2.2.2.2.1, ()))) (fun z0 z1 => J (z0, z1)) c.1 c.2.1 x.1 c.2.2.1 c.2.2.2.1 c.2.2.2.2.1 c.2.2.2.2.2.1 c.2.2.2.2.2.2.1 c.2.2.2.2.2.2.2 x.2
def impl_DoYard_25_sp (n : Nat) : LSpec T := mkSpec T ⟨[((.cell 32 1), 3000000, 30), ((.cell 56 1), 3000001, 30), ((.cell 72 1), 3000002, 30)], [2, 4, 7, 9, 10, 11, 13], [16, 32, 3000000, 56, 3000001, 72, 3000002]⟩ impl_DoYard_25_sv impl_DoYard_25_so (Int × Int × SYard × Int × List (List Int) × Int × List (List Int) × Int) (Int × List (List Int)) impl_DoYard_25_emb impl_DoYard_25_prj (impl_DoYard_25_b n)
noncomputable def impl_DoYard_25_c : Code := ((loopCodes impl_DoYard_code)[0]?).getD .skip
def impl_DoYard_29_sv : List Sv := [.one (.ptr 16 0 0), .one (.ptr 32 0 0), .one (.ptr 56 0 0), .one (.ptr 72 0 0), .one (.int .i64), .one (.int .i64), .one (.int .i64), .one (.int .i64), .one (.own 3000002 30 false), .one (.int .i64), .one (.int .i64)]
def impl_DoYard_29_so : List So := [.var [.int .i64, .arr 30], .var [.int .i64, .own 3000000 30 false], .arr 30 false, .var [.int .i64, .own 3000001 30 false], .arr 30 false, .var [.int .i64, .own 3000002 30 false], .arr 30 false]
def impl_DoYard_29_emb (c : Int × Int × Int × Int × SYard × Int × List (List Int) × Int × List (List Int) × Int × List (List Int)) (x : Int × Int) : EVs T impl_DoYard_29_sv × EOs T impl_DoYard_29_so := (((), (), (), (), c.1, c.2.1, c.2.2.1, x.1, (), c.2.2.2.1, x.2, ()), ((c.2.2.2.2.1.High, c.2.2.2.2.1.Stacks, ()), (c.2.2.2.2.2.1, (), ()), c.2.2.2.2.2.2.1, (c.2.2.2.2.2.2.2.1, (), ()), c.2.2.2.2.2.2.2.2.1, (c.2.2.2.2.2.2.2.2.2.1, (), ()), c.2.2.2.2.2.2.2.2.2.2, ()))
def impl_DoYard_29_prj (y : EVs T impl_DoYard_29_sv × EOs T impl_DoYard_29_so) : (Int × Int × Int × Int × SYard × Int × List (List Int) × Int × List (List Int) × Int × List (List Int)) × (Int × Int) := ((y.1.2.2.2.2.1, y.1.2.2.2.2.2.1, y.1.2.2.2.2.2.2.1, y.1.2.2.2.2.2.2.2.2.2.1, ((⟨y.2.1.1, y.2.1.2.1⟩ : SYard) : SYard), y.2.2.1.1, y.2.2.2.1, y.2.2.2.2.1.1, y.2.2.2.2.2.1, y.2.2.2.2.2.2.1.1, y.2.2.2.2.2.2.2.1), (y.1.2.2.2.2.2.2.2.1, y.1.2.2.2.2.2.2.2.2.2.2.1))
def impl_DoYard_29_b (n : Nat) {R : Type} (K : Ex → Sm.St T → Option R) (c : Int × Int × Int × Int × SYard × Int × List (List Int) × Int × List (List Int) × Int × List (List Int)) (x : Int × Int) (J : (Int × Int) → Option R) : Option R :=
  impl_DoYard_L29 n (fun (y3 : Int) => K (.exit 5) (stOf (T := T) [2, 4, 7, 9, 10, 11, 13, 14] [16, 32, 3000000, 56, 3000001, 72, 3000002] [.one (.ptr 16 0 0), .one (.ptr 32 0 0), .one (.ptr 56 0 0), .one (.ptr 72 0 0), .one (.int .i64), .one (.int .i64), .one (.int .i64), .one (.int .i64)] [.var [.int .i64, .arr 30], .var [.int .i64, .own 3000000 30 false], .arr 30 false, .var [.int .i64, .own 3000001 30 false], .arr 30 false, .var [.int .i64, .own 3000002 30 false], .arr 30 false] ((), (), (), (), c.1, c.2.1, c.2.2.1, y3, ()) ((c.2.2.2.2.1.High, c.2.2.2.2.1.Stacks, ()), (c.2.2.2.2.2.1, (), ()), c.2.2.2.2.2.2.1, (c.2.2.2.2.2.2.2.1, (), ()), c.2.2.2.2.2.2.2.2.1, (c.2.2.2.2.2.2.2.2.2.1, (), ()), c.2.2.2.2.2.2.2.2.2.2, ()))) (fun z0 z1 => J (z0, z1)) c.1 c.2.1 c.2.2.1 x.1 c.2.2.2.1 x.2 c.2.2.2.2.1 c.2.2.2.2.2.1 c.2.2.2.2.2.2.1 c.2.2.2.2.2.2.2.1 c.2.2.2.2.2.2.2.2.1 c.2.2.2.2.2.2.2.2.2.1 c.2.2.2.2.2.2.2.2.2.2
def impl_DoYard_29_sp (n : Nat) : LSpec T := mkSpec T ⟨[((.reg 167), 3000003, 30), ((.cell 32 1), 3000000, 30), ((.cell 56 1), 3000001, 30), ((.cell 72 1), 3000002, 30)], [2, 4, 7, 9, 10, 11, 13, 14, 167, 168, 169], [16, 32, 3000000, 56, 3000001, 72, 3000002]⟩ impl_DoYard_29_sv impl_DoYard_29_so (Int × Int × Int × Int × SYard × Int × List (List Int) × Int × List (List Int) × Int × List (List Int)) (Int × Int) impl_DoYard_29_emb impl_DoYard_29_prj (impl_DoYard_29_b n)
noncomputable def impl_DoYard_29_c : Code := ((loopCodes impl_DoYard_code)[1]?).getD .skip
def impl_DoYard_ann : Ann := fun id => bif Nat.beq id 6000025 then some ⟨[((.cell 32 1), 3000000, 30), ((.cell 72 1), 3000002, 30)], [4, 9, 10, 11, 13], [32, 3000000, 72, 3000002]⟩ else bif Nat.beq id 2000025 then some ⟨[((.cell 32 1), 3000000, 30)], [4, 5, 6], [32, 3000000]⟩ else bif Nat.beq id 8000029 then some ⟨[((.cell 32 1), 3000000, 30), ((.cell 56 1), 3000001, 30), ((.cell 72 1), 3000002, 30)], [2, 4, 7, 9, 10, 11, 13, 14], [16, 32, 3000000, 56, 3000001, 72, 3000002]⟩ else none
def impl_DoYard_Ls (n : Nat) : Nat → Option (LSpec T) := fun id => bif Nat.beq id 25 then some (impl_DoYard_25_sp n) else bif Nat.beq id 29 then some (impl_DoYard_29_sp n) else none
theorem impl_DoYard_25_le (n : Nat) : LoopEq (T := T) (Phi n 17) (impl_DoYard_Ls n) impl_DoYard_ann n impl_DoYard_25_c (impl_DoYard_25_sp n) := ⟨mkSpec_dec (fun y => rfl), fun c x => by kernel_rfl, fun K J c x => by kernel_rfl⟩
theorem impl_DoYard_29_le (n : Nat) : LoopEq (T := T) (Phi n 17) (impl_DoYard_Ls n) impl_DoYard_ann n impl_DoYard_29_c (impl_DoYard_29_sp n) := ⟨mkSpec_dec (fun y => rfl), fun c x => by kernel_rfl, fun K J c x => by kernel_rfl⟩
theorem impl_DoYard_tie (n : Nat) (y0 : SYard) (op1 : SYardOp) : evF (T := T) (Phi n 17) (impl_DoYard_Ls n) impl_DoYard_ann n Try.f33 (sg 33) [vA T 26 y0, vA T 75 op1] impl_DoYard_dec = impl_DoYard n y0 op1 := by kernel_rfl
theorem impl_DoYard_lo (n : Nat) : LoopsOk (T := T) (Phi n 17) (impl_DoYard_Ls n) impl_DoYard_ann n impl_DoYard_code := loopsOk_all (cs := [impl_DoYard_25_c, impl_DoYard_29_c]) (by kernel_rfl) ⟨⟨_, by kernel_rfl, impl_DoYard_25_le n⟩, ⟨_, by kernel_rfl, impl_DoYard_29_le n⟩, trivial⟩
theorem impl_DoYard_ok (n : Nat) : EntOk Try.prog (ents n) (impl_DoYard_ent n) := by
  intro hs ar y hg h
  replace h : impl_DoYard_D n ar = some y := h
  unfold impl_DoYard_D at h
  replace h := ocons_some h
  obtain ⟨a0, r0, rfl, h⟩ := h
  replace h := ocons_some h
  obtain ⟨a1, r1, rfl, h⟩ := h
  replace h := onil_some h
  obtain ⟨rfl, h⟩ := h
  obtain ⟨y0, qh0, h⟩ := obind_some h
  obtain ⟨op1, qh1, h⟩ := obind_some h
  rw [argV_eq ok qh0, argV_eq ok qh1]
  exact call_of (phiE_nat _ _) hs ok mixed Try.func33 (c := impl_DoYard_code) (by kernel_rfl) (impl_DoYard_lo n) (by kernel_rfl) (by kernel_rfl) (by kernel_rfl) impl_DoYard_de ((impl_DoYard_tie n y0 op1).trans h)
noncomputable def impl_RunYard_code : Code := match Try.f8.body with | some c => c | none => .skip
def impl_RunYard_7_sv : List Sv := [.one (.ptr 16 0 0), .one (.ptr 32 0 0), .one (.own 3000000 3 false), .one (.int .i64), .one (.arr 75), .one (.int .i64), .one (.int .i64)]
def impl_RunYard_7_so : List So := [.var [.int .i64, .own 3000001 30 false], .arr 30 false, .var [.int .i64, .own 3000002 30 false], .arr 30 false, .arr 3 false]
def impl_RunYard_7_emb (c : List SYardOp × Int × Int × List (List Int)) (x : Int × Int × Int × List (List Int) × List Int) : EVs T impl_RunYard_7_sv × EOs T impl_RunYard_7_so := (((), (), (), x.1, c.1, c.2.1, x.2.1, ()), ((x.2.2.1, (), ()), x.2.2.2.1, (c.2.2.1, (), ()), c.2.2.2, x.2.2.2.2, ()))
def impl_RunYard_7_prj (y : EVs T impl_RunYard_7_sv × EOs T impl_RunYard_7_so) : (List SYardOp × Int × Int × List (List Int)) × (Int × Int × Int × List (List Int) × List Int) := ((y.1.2.2.2.2.1, y.1.2.2.2.2.2.1, y.2.2.2.1.1, y.2.2.2.2.1), (y.1.2.2.2.1, y.1.2.2.2.2.2.2.1, y.2.1.1, y.2.2.1, y.2.2.2.2.2.1))
def impl_RunYard_7_b (n : Nat) {R : Type} (K : Ex → Sm.St T → Option R) (c : List SYardOp × Int × Int × List (List Int)) (x : Int × Int × Int × List (List Int) × List Int) (J : (Int × Int × Int × List (List Int) × List Int) → Option R) : Option R :=
  impl_RunYard_L7 n (fun (y0 : Int) (y1 : Int) (y2 : List (List Int)) (y5 : List Int) => K (.exit 0) (stOf (T := T) [2, 4, 7, 8] [16, 3000001, 32, 3000002, 3000000] [.one (.ptr 16 0 0), .one (.ptr 32 0 0), .one (.own 3000000 3 false), .one (.int .i64)] [.var [.int .i64, .own 3000001 30 false], .arr 30 false, .var [.int .i64, .own 3000002 30 false], .arr 30 false, .arr 3 false] ((), (), (), y0, ()) ((y1, (), ()), y2, (c.2.2.1, (), ()), c.2.2.2, y5, ()))) (fun z0 z1 z2 z3 z4 => J (z0, z1, z2, z3, z4)) x.1 c.1 c.2.1 x.2.1 x.2.2.1 x.2.2.2.1 c.2.2.1 c.2.2.2 x.2.2.2.2
def impl_RunYard_7_sp (n : Nat) : LSpec T := mkSpec T ⟨[((.reg 7), 3000000, 3), ((.cell 16 1), 3000001, 30), ((.cell 32 1), 3000002, 30)], [2, 4, 7, 8, 19, 20, 21], [16, 3000001, 32, 3000002, 3000000]⟩ impl_RunYard_7_sv impl_RunYard_7_so (List SYardOp × Int × Int × List (List Int)) (Int × Int × Int × List (List Int) × List Int) impl_RunYard_7_emb impl_RunYard_7_prj (impl_RunYard_7_b n)
noncomputable def impl_RunYard_7_c : Code := ((loopCodes impl_RunYard_code)[0]?).getD .skip
def impl_RunYard_ann : Ann := fun id => bif Nat.beq id 3000007 then some ⟨[((.reg 7), 3000000, 3), ((.cell 16 1), 3000001, 30), ((.cell 32 1), 3000002, 30)], [2, 4, 7, 8], [16, 3000001, 32, 3000002, 3000000]⟩ else none
def impl_RunYard_Ls (n : Nat) : Nat → Option (LSpec T) := fun id => bif Nat.beq id 7 then some (impl_RunYard_7_sp n) else none
theorem impl_RunYard_7_le (n : Nat) : LoopEq (T := T) (Phi n 18) (impl_RunYard_Ls n) impl_RunYard_ann n impl_RunYard_7_c (impl_RunYard_7_sp n) := ⟨mkSpec_dec (fun y => rfl), fun c x => by kernel_rfl, fun K J c x => by kernel_rfl⟩
theorem impl_RunYard_tie (n : Nat) (y0 : SYard) (ops1 : List SYardOp) : evF (T := T) (Phi n 18) (impl_RunYard_Ls n) impl_RunYard_ann n Try.f8 (sg 8) [vA T 26 y0, vA T 27 ops1] impl_RunYard_dec = impl_RunYard n y0 ops1 := by kernel_rfl
theorem impl_RunYard_lo (n : Nat) : LoopsOk (T := T) (Phi n 18) (impl_RunYard_Ls n) impl_RunYard_ann n impl_RunYard_code := loopsOk_all (cs := [impl_RunYard_7_c]) (by kernel_rfl) ⟨⟨_, by kernel_rfl, impl_RunYard_7_le n⟩, trivial⟩
theorem impl_RunYard_ok (n : Nat) : EntOk Try.prog (ents n) (impl_RunYard_ent n) := by
  intro hs ar y hg h
  replace h : impl_RunYard_D n ar = some y := h
  unfold impl_RunYard_D at h
  replace h := ocons_some h
  obtain ⟨a0, r0, rfl, h⟩ := h
  replace h := ocons_some h
  obtain ⟨a1, r1, rfl, h⟩ := h
  replace h := onil_some h
  obtain ⟨rfl, h⟩ := h
  obtain ⟨y0, qh0, h⟩ := obind_some h
  obtain ⟨ops1, qh1, h⟩ := obind_some h
  rw [argV_eq ok qh0, argV_eq ok qh1]
  exact call_of (phiE_nat _ _) hs ok mixed Try.func8 (c := impl_RunYard_code) (by kernel_rfl) (impl_RunYard_lo n) (by kernel_rfl) (by kernel_rfl) (by kernel_rfl) impl_RunYard_de ((impl_RunYard_tie n y0 ops1).trans h)
noncomputable def spec_l1Once_code : Code := match Try.f86.body with | some c => c | none => .skip
def spec_l1Once_ann : Ann := fun id => none
def spec_l1Once_Ls (n : Nat) : Nat → Option (LSpec T) := fun id => none
theorem spec_l1Once_tie (n : Nat) (c0 : Sl1Cur) (n1 : Int) : evF (T := T) (Phi n 19) (spec_l1Once_Ls n) spec_l1Once_ann n Try.f86 (sg 86) [.ptr 120 c0, vA T 3 n1] spec_l1Once_dec = spec_l1Once n c0 n1 := by kernel_rfl
theorem spec_l1Once_lo (n : Nat) : LoopsOk (T := T) (Phi n 19) (spec_l1Once_Ls n) spec_l1Once_ann n spec_l1Once_code := loopsOk_all (cs := []) (by kernel_rfl) trivial
theorem spec_l1Once_ok (n : Nat) : EntOk Try.prog (ents n) (spec_l1Once_ent n) := by
  intro hs ar y hg h
  replace h : spec_l1Once_D n ar = some y := h
  unfold spec_l1Once_D at h
  replace h := ocons_some h
  obtain ⟨a0, r0, rfl, h⟩ := h
  replace h := ocons_some h
  obtain ⟨a1, r1, rfl, h⟩ := h
  replace h := onil_some h
  obtain ⟨rfl, h⟩ := h
  obtain ⟨c0, qh0, h⟩ := obind_some h
  obtain ⟨n1, qh1, h⟩ := obind_some h
  rw [argP_eq qh0, argV_eq ok qh1]
  exact call_of (phiE_nat _ _) hs ok mixed Try.func86 (c := spec_l1Once_code) (by kernel_rfl) (spec_l1Once_lo n) (by kernel_rfl) (by kernel_rfl) (by kernel_rfl) spec_l1Once_de ((spec_l1Once_tie n c0 n1).trans h)
noncomputable def spec_l9DrawRadios_code : Code := match Try.f35.body with | some c => c | none => .skip
def spec_l9DrawRadios_8_sv : List Sv := [.one (.ptr 4503599627370496 0 0), .one (.int .i64), .one (.own 3000000 37 false), .one (.int .i64), .one (.int .i64), .one (.int .i64)]
def spec_l9DrawRadios_8_so : List So := [.var [.arr 5, .int .i64, .int .i64], .arr 37 false]
def spec_l9DrawRadios_8_emb (c : Int × Int) (x : Int × Int × Sl1Cur × List SRadio) : EVs T spec_l9DrawRadios_8_sv × EOs T spec_l9DrawRadios_8_so := (((), c.1, (), x.1, c.2, x.2.1, ()), ((x.2.2.1.b, x.2.2.1.i, x.2.2.1.h, ()), x.2.2.2, ()))
def spec_l9DrawRadios_8_prj (y : EVs T spec_l9DrawRadios_8_sv × EOs T spec_l9DrawRadios_8_so) : (Int × Int) × (Int × Int × Sl1Cur × List SRadio) := ((y.1.2.1, y.1.2.2.2.2.1), (y.1.2.2.2.1, y.1.2.2.2.2.2.1, ((⟨y.2.1.1, y.2.1.2.1, y.2.1.2.2.1⟩ : Sl1Cur) : Sl1Cur), y.2.2.1))
def spec_l9DrawRadios_8_b (n : Nat) {R : Type} (K : Ex → Sm.St T → Option R) (c : Int × Int) (x : Int × Int × Sl1Cur × List SRadio) (J : (Int × Int × Sl1Cur × List SRadio) → Option R) : Option R :=
  spec_l9DrawRadios_L8 n (fun (y1 : Sl1Cur) (y2 : List SRadio) => K (.exit 0) (stOf (T := T) [0, 3, 4] [4503599627370496, 3000000] [.one (.ptr 4503599627370496 0 0), .one (.int .i64), .one (.own 3000000 37 false)] [.var [.arr 5, .int .i64, .int .i64], .arr 37 false] ((), c.1, (), ()) ((y1.b, y1.i, y1.h, ()), y2, ()))) (fun z0 z1 z2 z3 => J (z0, z1, z2, z3)) c.1 x.1 c.2 x.2.1 x.2.2.1 x.2.2.2
def spec_l9DrawRadios_8_sp (n : Nat) : LSpec T := mkSpec T ⟨[((.reg 4), 3000000, 37)], [0, 3, 4, 5, 6, 7], [4503599627370496, 3000000]⟩ spec_l9DrawRadios_8_sv spec_l9DrawRadios_8_so (Int × Int) (Int × Int × Sl1Cur × List SRadio) spec_l9DrawRadios_8_emb spec_l9DrawRadios_8_prj (spec_l9DrawRadios_8_b n)
noncomputable def spec_l9DrawRadios_8_c : Code := ((loopCodes spec_l9DrawRadios_code)[0]?).getD .skip
def spec_l9DrawRadios_14_sv : List Sv := [.one (.ptr 4503599627370496 0 0), .one (.int .i64), .one (.own 3000000 37 false), .one (.int .i64), .one (.int .i64)]
def spec_l9DrawRadios_14_so : List So := [.var [.arr 5, .int .i64, .int .i64], .arr 37 false]
def spec_l9DrawRadios_14_emb (c : Int × Int) (x : Int × Sl1Cur × List SRadio) : EVs T spec_l9DrawRadios_14_sv × EOs T spec_l9DrawRadios_14_so := (((), c.1, (), c.2, x.1, ()), ((x.2.1.b, x.2.1.i, x.2.1.h, ()), x.2.2, ()))
def spec_l9DrawRadios_14_prj (y : EVs T spec_l9DrawRadios_14_sv × EOs T spec_l9DrawRadios_14_so) : (Int × Int) × (Int × Sl1Cur × List SRadio) := ((y.1.2.1, y.1.2.2.2.1), (y.1.2.2.2.2.1, ((⟨y.2.1.1, y.2.1.2.1, y.2.1.2.2.1⟩ : Sl1Cur) : Sl1Cur), y.2.2.1))
def spec_l9DrawRadios_14_b (n : Nat) {R : Type} (K : Ex → Sm.St T → Option R) (c : Int × Int) (x : Int × Sl1Cur × List SRadio) (J : (Int × Sl1Cur × List SRadio) → Option R) : Option R :=
  spec_l9DrawRadios_L14 n (fun (y0 : List SRadio) (y1 : Sl1Cur) => K (.exit 2) (stOf (T := T) [4] [3000000, 4503599627370496] [.one (.own 3000000 37 false)] [.arr 37 false, .var [.arr 5, .int .i64, .int .i64]] ((), ()) (y0, (y1.b, y1.i, y1.h, ()), ()))) (fun z0 z1 z2 => J (z0, z1, z2)) c.1 c.2 x.1 x.2.1 x.2.2
def spec_l9DrawRadios_14_sp (n : Nat) : LSpec T := mkSpec T ⟨[((.reg 4), 3000000, 37)], [0, 3, 4, 8, 9], [4503599627370496, 3000000]⟩ spec_l9DrawRadios_14_sv spec_l9DrawRadios_14_so (Int × Int) (Int × Sl1Cur × List SRadio) spec_l9DrawRadios_14_emb spec_l9DrawRadios_14_prj (spec_l9DrawRadios_14_b n)
noncomputable def spec_l9DrawRadios_14_c : Code := ((loopCodes spec_l9DrawRadios_code)[1]?).getD .skip
def spec_l9DrawRadios_17_sv : List Sv := [.one (.ptr 4503599627370496 0 0), .one (.int .i64), .one (.own 3000000 37 false), .one (.int .i64), .one (.int .i64), .one (.int .i64)]
def spec_l9DrawRadios_17_so : List So := [.var [.arr 5, .int .i64, .int .i64], .arr 37 false]
def spec_l9DrawRadios_17_emb (c : Int × Int × Int) (x : Int × Sl1Cur × List SRadio) : EVs T spec_l9DrawRadios_17_sv × EOs T spec_l9DrawRadios_17_so := (((), c.1, (), c.2.1, c.2.2, x.1, ()), ((x.2.1.b, x.2.1.i, x.2.1.h, ()), x.2.2, ()))
def spec_l9DrawRadios_17_prj (y : EVs T spec_l9DrawRadios_17_sv × EOs T spec_l9DrawRadios_17_so) : (Int × Int × Int) × (Int × Sl1Cur × List SRadio) := ((y.1.2.1, y.1.2.2.2.1, y.1.2.2.2.2.1), (y.1.2.2.2.2.2.1, ((⟨y.2.1.1, y.2.1.2.1, y.2.1.2.2.1⟩ : Sl1Cur) : Sl1Cur), y.2.2.1))
def spec_l9DrawRadios_17_b (n : Nat) {R : Type} (K : Ex → Sm.St T → Option R) (c : Int × Int × Int) (x : Int × Sl1Cur × List SRadio) (J : (Int × Sl1Cur × List SRadio) → Option R) : Option R :=
  spec_l9DrawRadios_L17 n (fun (y3 : Sl1Cur) (y4 : List SRadio) => K (.exit 4) (stOf (T := T) [0, 3, 4, 8, 9] [4503599627370496, 3000000] [.one (.ptr 4503599627370496 0 0), .one (.int .i64), .one (.own 3000000 37 false), .one (.int .i64), .one (.int .i64)] [.var [.arr 5, .int .i64, .int .i64], .arr 37 false] ((), c.1, (), c.2.1, c.2.2, ()) ((y3.b, y3.i, y3.h, ()), y4, ()))) (fun z0 z1 z2 => J (z0, z1, z2)) c.1 c.2.1 c.2.2 x.1 x.2.1 x.2.2
def spec_l9DrawRadios_17_sp (n : Nat) : LSpec T := mkSpec T ⟨[((.reg 4), 3000000, 37)], [0, 3, 4, 8, 9, 10], [4503599627370496, 3000000]⟩ spec_l9DrawRadios_17_sv spec_l9DrawRadios_17_so (Int × Int × Int) (Int × Sl1Cur × List SRadio) spec_l9DrawRadios_17_emb spec_l9DrawRadios_17_prj (spec_l9DrawRadios_17_b n)
noncomputable def spec_l9DrawRadios_17_c : Code := ((loopCodes spec_l9DrawRadios_code)[2]?).getD .skip
def spec_l9DrawRadios_ann : Ann := fun id => bif Nat.beq id 3000008 then some ⟨[((.reg 4), 3000000, 37)], [0, 3, 4], [4503599627370496, 3000000]⟩ else bif Nat.beq id 5000014 then some ⟨[((.reg 4), 3000000, 37)], [4], [3000000, 4503599627370496]⟩ else bif Nat.beq id 7000017 then some ⟨[((.reg 4), 3000000, 37)], [0, 3, 4, 8, 9], [4503599627370496, 3000000]⟩ else none
def spec_l9DrawRadios_Ls (n : Nat) : Nat → Option (LSpec T) := fun id => bif Nat.beq id 8 then some (spec_l9DrawRadios_8_sp n) else bif Nat.beq id 14 then some (spec_l9DrawRadios_14_sp n) else bif Nat.beq id 17 then some (spec_l9DrawRadios_17_sp n) else none
theorem spec_l9DrawRadios_8_le (n : Nat) : LoopEq (T := T) (Phi n 20) (spec_l9DrawRadios_Ls n) spec_l9DrawRadios_ann n spec_l9DrawRadios_8_c (spec_l9DrawRadios_8_sp n) := ⟨mkSpec_dec (fun y => rfl), fun c x => by kernel_rfl, fun K J c x => by kernel_rfl⟩
theorem spec_l9DrawRadios_14_le (n : Nat) : LoopEq (T := T) (Phi n 20) (spec_l9DrawRadios_Ls n) spec_l9DrawRadios_ann n spec_l9DrawRadios_14_c (spec_l9DrawRadios_14_sp n) := ⟨mkSpec_dec (fun y => rfl), fun c x => by kernel_rfl, fun K J c x => by kernel_rfl⟩
theorem spec_l9DrawRadios_17_le (n : Nat) : LoopEq (T := T) (Phi n 20) (spec_l9DrawRadios_Ls n) spec_l9DrawRadios_ann n spec_l9DrawRadios_17_c (spec_l9DrawRadios_17_sp n) := ⟨mkSpec_dec (fun y => rfl), fun c x => by kernel_rfl, fun K J c x => by kernel_rfl⟩
theorem spec_l9DrawRadios_tie (n : Nat) (c0 : Sl1Cur) : evF (T := T) (Phi n 20) (spec_l9DrawRadios_Ls n) spec_l9DrawRadios_ann n Try.f35 (sg 35) [.ptr 120 c0] spec_l9DrawRadios_dec = spec_l9DrawRadios n c0 := by kernel_rfl
theorem spec_l9DrawRadios_lo (n : Nat) : LoopsOk (T := T) (Phi n 20) (spec_l9DrawRadios_Ls n) spec_l9DrawRadios_ann n spec_l9DrawRadios_code := loopsOk_all (cs := [spec_l9DrawRadios_8_c, spec_l9DrawRadios_14_c, spec_l9DrawRadios_17_c]) (by kernel_rfl) ⟨⟨_, by kernel_rfl, spec_l9DrawRadios_8_le n⟩, ⟨_, by kernel_rfl, spec_l9DrawRadios_14_le n⟩, ⟨_, by kernel_rfl, spec_l9DrawRadios_17_le n⟩, trivial⟩
theorem spec_l9DrawRadios_ok (n : Nat) : EntOk Try.prog (ents n) (spec_l9DrawRadios_ent n) := by
  intro hs ar y hg h
  replace h : spec_l9DrawRadios_D n ar = some y := h
  unfold spec_l9DrawRadios_D at h
  replace h := ocons_some h
  obtain ⟨a0, r0, rfl, h⟩ := h
  replace h := onil_some h
  obtain ⟨rfl, h⟩ := h
  obtain ⟨c0, qh0, h⟩ := obind_some h
  rw [argP_eq qh0]
  exact call_of (phiE_nat _ _) hs ok mixed Try.func35 (c := spec_l9DrawRadios_code) (by kernel_rfl) (spec_l9DrawRadios_lo n) (by kernel_rfl) (by kernel_rfl) (by kernel_rfl) spec_l9DrawRadios_de ((spec_l9DrawRadios_tie n c0).trans h)
noncomputable def spec_l9DrawCoins_code : Code := match Try.f36.body with | some c => c | none => .skip
def spec_l9DrawCoins_3_sv : List Sv := [.one (.ptr 4503599627370496 0 0), .one (.int .i64), .one (.own 3000000 3 false), .one (.int .i64)]
def spec_l9DrawCoins_3_so : List So := [.var [.arr 5, .int .i64, .int .i64], .arr 3 false]
def spec_l9DrawCoins_3_emb (c : Int) (x : Int × Sl1Cur × List Int) : EVs T spec_l9DrawCoins_3_sv × EOs T spec_l9DrawCoins_3_so := (((), c, (), x.1, ()), ((x.2.1.b, x.2.1.i, x.2.1.h, ()), x.2.2, ()))
def spec_l9DrawCoins_3_prj (y : EVs T spec_l9DrawCoins_3_sv × EOs T spec_l9DrawCoins_3_so) : Int × (Int × Sl1Cur × List Int) := ((y.1.2.1), (y.1.2.2.2.1, ((⟨y.2.1.1, y.2.1.2.1, y.2.1.2.2.1⟩ : Sl1Cur) : Sl1Cur), y.2.2.1))
def spec_l9DrawCoins_3_b (n : Nat) {R : Type} (K : Ex → Sm.St T → Option R) (c : Int) (x : Int × Sl1Cur × List Int) (J : (Int × Sl1Cur × List Int) → Option R) : Option R :=
  spec_l9DrawCoins_L3 n (fun (y0 : List Int) (y1 : Sl1Cur) => K (.exit 0) (stOf (T := T) [5] [3000000, 4503599627370496] [.one (.own 3000000 3 false)] [.arr 3 false, .var [.arr 5, .int .i64, .int .i64]] ((), ()) (y0, (y1.b, y1.i, y1.h, ()), ()))) (fun z0 z1 z2 => J (z0, z1, z2)) c x.1 x.2.1 x.2.2
def spec_l9DrawCoins_3_sp (n : Nat) : LSpec T := mkSpec T ⟨[((.reg 5), 3000000, 3)], [0, 1, 5, 6], [4503599627370496, 3000000]⟩ spec_l9DrawCoins_3_sv spec_l9DrawCoins_3_so (Int) (Int × Sl1Cur × List Int) spec_l9DrawCoins_3_emb spec_l9DrawCoins_3_prj (spec_l9DrawCoins_3_b n)
noncomputable def spec_l9DrawCoins_3_c : Code := ((loopCodes spec_l9DrawCoins_code)[0]?).getD .skip
def spec_l9DrawCoins_ann : Ann := fun id => bif Nat.beq id 3000003 then some ⟨[((.reg 5), 3000000, 3)], [5], [3000000, 4503599627370496]⟩ else none
def spec_l9DrawCoins_Ls (n : Nat) : Nat → Option (LSpec T) := fun id => bif Nat.beq id 3 then some (spec_l9DrawCoins_3_sp n) else none
theorem spec_l9DrawCoins_3_le (n : Nat) : LoopEq (T := T) (Phi n 21) (spec_l9DrawCoins_Ls n) spec_l9DrawCoins_ann n spec_l9DrawCoins_3_c (spec_l9DrawCoins_3_sp n) := ⟨mkSpec_dec (fun y => rfl), fun c x => by kernel_rfl, fun K J c x => by kernel_rfl⟩
theorem spec_l9DrawCoins_tie (n : Nat) (c0 : Sl1Cur) (n1 : Int) : evF (T := T) (Phi n 21) (spec_l9DrawCoins_Ls n) spec_l9DrawCoins_ann n Try.f36 (sg 36) [.ptr 120 c0, vA T 3 n1] spec_l9DrawCoins_dec = spec_l9DrawCoins n c0 n1 := by kernel_rfl
theorem spec_l9DrawCoins_lo (n : Nat) : LoopsOk (T := T) (Phi n 21) (spec_l9DrawCoins_Ls n) spec_l9DrawCoins_ann n spec_l9DrawCoins_code := loopsOk_all (cs := [spec_l9DrawCoins_3_c]) (by kernel_rfl) ⟨⟨_, by kernel_rfl, spec_l9DrawCoins_3_le n⟩, trivial⟩
theorem spec_l9DrawCoins_ok (n : Nat) : EntOk Try.prog (ents n) (spec_l9DrawCoins_ent n) := by
  intro hs ar y hg h
  replace h : spec_l9DrawCoins_D n ar = some y := h
  unfold spec_l9DrawCoins_D at h
  replace h := ocons_some h
  obtain ⟨a0, r0, rfl, h⟩ := h
  replace h := ocons_some h
  obtain ⟨a1, r1, rfl, h⟩ := h
  replace h := onil_some h
  obtain ⟨rfl, h⟩ := h
  obtain ⟨c0, qh0, h⟩ := obind_some h
  obtain ⟨n1, qh1, h⟩ := obind_some h
  rw [argP_eq qh0, argV_eq ok qh1]
  exact call_of (phiE_nat _ _) hs ok mixed Try.func36 (c := spec_l9DrawCoins_code) (by kernel_rfl) (spec_l9DrawCoins_lo n) (by kernel_rfl) (by kernel_rfl) (by kernel_rfl) spec_l9DrawCoins_de ((spec_l9DrawCoins_tie n c0 n1).trans h)
noncomputable def spec_DrawQuiet_code : Code := match Try.f9.body with | some c => c | none => .skip
def spec_DrawQuiet_3_sv : List Sv := [.one (.ptr 56 0 0), .one (.own 3000000 37 false)]
def spec_DrawQuiet_3_so : List So := [.var [.arr 5, .int .i64, .int .i64], .arr 37 false]
def spec_DrawQuiet_3_emb (c : Unit) (x : Sl1Cur × List SRadio) : EVs T spec_DrawQuiet_3_sv × EOs T spec_DrawQuiet_3_so := (((), (), ()), ((x.1.b, x.1.i, x.1.h, ()), x.2, ()))
def spec_DrawQuiet_3_prj (y : EVs T spec_DrawQuiet_3_sv × EOs T spec_DrawQuiet_3_so) : Unit × (Sl1Cur × List SRadio) := ((), (((⟨y.2.1.1, y.2.1.2.1, y.2.1.2.2.1⟩ : Sl1Cur) : Sl1Cur), y.2.2.1))
def spec_DrawQuiet_3_b (n : Nat) {R : Type} (K : Ex → Sm.St T → Option R) (c : Unit) (x : Sl1Cur × List SRadio) (J : (Sl1Cur × List SRadio) → Option R) : Option R :=
  spec_DrawQuiet_L3 n (fun (y0 : Sl1Cur) (y1 : List SRadio) => K (.exit 0) (stOf (T := T) [4, 5] [56, 3000000] [.one (.ptr 56 0 0), .one (.own 3000000 37 false)] [.var [.arr 5, .int .i64, .int .i64], .arr 37 false] ((), (), ()) ((y0.b, y0.i, y0.h, ()), y1, ()))) (fun z0 z1 => J (z0, z1)) x.1 x.2
def spec_DrawQuiet_3_sp (n : Nat) : LSpec T := mkSpec T ⟨[((.reg 5), 3000000, 37)], [4, 5], [56, 3000000]⟩ spec_DrawQuiet_3_sv spec_DrawQuiet_3_so (Unit) (Sl1Cur × List SRadio) spec_DrawQuiet_3_emb spec_DrawQuiet_3_prj (spec_DrawQuiet_3_b n)
noncomputable def spec_DrawQuiet_3_c : Code := ((loopCodes spec_DrawQuiet_code)[0]?).getD .skip
def spec_DrawQuiet_ann : Ann := fun id => bif Nat.beq id 3000003 then some ⟨[((.reg 5), 3000000, 37)], [4, 5], [56, 3000000]⟩ else none
def spec_DrawQuiet_Ls (n : Nat) : Nat → Option (LSpec T) := fun id => bif Nat.beq id 3 then some (spec_DrawQuiet_3_sp n) else none
theorem spec_DrawQuiet_3_le (n : Nat) : LoopEq (T := T) (Phi n 22) (spec_DrawQuiet_Ls n) spec_DrawQuiet_ann n spec_DrawQuiet_3_c (spec_DrawQuiet_3_sp n) := ⟨mkSpec_dec (fun y => rfl), fun c x => by kernel_rfl, fun K J c x => by kernel_rfl⟩
theorem spec_DrawQuiet_tie (n : Nat) (code0 : List Int) : evF (T := T) (Phi n 22) (spec_DrawQuiet_Ls n) spec_DrawQuiet_ann n Try.f9 (sg 9) [vA T 22 code0] spec_DrawQuiet_dec = spec_DrawQuiet n code0 := by kernel_rfl
theorem spec_DrawQuiet_lo (n : Nat) : LoopsOk (T := T) (Phi n 22) (spec_DrawQuiet_Ls n) spec_DrawQuiet_ann n spec_DrawQuiet_code := loopsOk_all (cs := [spec_DrawQuiet_3_c]) (by kernel_rfl) ⟨⟨_, by kernel_rfl, spec_DrawQuiet_3_le n⟩, trivial⟩
theorem spec_DrawQuiet_ok (n : Nat) : EntOk Try.prog (ents n) (spec_DrawQuiet_ent n) := by
  intro hs ar y hg h
  replace h : spec_DrawQuiet_D n ar = some y := h
  unfold spec_DrawQuiet_D at h
  replace h := ocons_some h
  obtain ⟨a0, r0, rfl, h⟩ := h
  replace h := onil_some h
  obtain ⟨rfl, h⟩ := h
  obtain ⟨code0, qh0, h⟩ := obind_some h
  rw [argV_eq ok qh0]
  exact call_of (phiE_nat _ _) hs ok mixed Try.func9 (c := spec_DrawQuiet_code) (by kernel_rfl) (spec_DrawQuiet_lo n) (by kernel_rfl) (by kernel_rfl) (by kernel_rfl) spec_DrawQuiet_de ((spec_DrawQuiet_tie n code0).trans h)
noncomputable def impl_idOk_code : Code := match Try.f87.body with | some c => c | none => .skip
def impl_idOk_ann : Ann := fun id => none
def impl_idOk_Ls (n : Nat) : Nat → Option (LSpec T) := fun id => none
theorem impl_idOk_tie (n : Nat) (n0 : Int) : evF (T := T) (Phi n 23) (impl_idOk_Ls n) impl_idOk_ann n Try.f87 (sg 87) [vA T 3 n0] impl_idOk_dec = impl_idOk n n0 := by kernel_rfl
theorem impl_idOk_lo (n : Nat) : LoopsOk (T := T) (Phi n 23) (impl_idOk_Ls n) impl_idOk_ann n impl_idOk_code := loopsOk_all (cs := []) (by kernel_rfl) trivial
theorem impl_idOk_ok (n : Nat) : EntOk Try.prog (ents n) (impl_idOk_ent n) := by
  intro hs ar y hg h
  replace h : impl_idOk_D n ar = some y := h
  unfold impl_idOk_D at h
  replace h := ocons_some h
  obtain ⟨a0, r0, rfl, h⟩ := h
  replace h := onil_some h
  obtain ⟨rfl, h⟩ := h
  obtain ⟨n0, qh0, h⟩ := obind_some h
  rw [argV_eq ok qh0]
  exact call_of (phiE_nat _ _) hs ok mixed Try.func87 (c := impl_idOk_code) (by kernel_rfl) (impl_idOk_lo n) (by kernel_rfl) (by kernel_rfl) (by kernel_rfl) impl_idOk_de ((impl_idOk_tie n n0).trans h)
noncomputable def impl_slotOk_code : Code := match Try.f88.body with | some c => c | none => .skip
def impl_slotOk_ann : Ann := fun id => none
def impl_slotOk_Ls (n : Nat) : Nat → Option (LSpec T) := fun id => none
theorem impl_slotOk_tie (n : Nat) (n0 : Int) : evF (T := T) (Phi n 24) (impl_slotOk_Ls n) impl_slotOk_ann n Try.f88 (sg 88) [vA T 3 n0] impl_slotOk_dec = impl_slotOk n n0 := by kernel_rfl
theorem impl_slotOk_lo (n : Nat) : LoopsOk (T := T) (Phi n 24) (impl_slotOk_Ls n) impl_slotOk_ann n impl_slotOk_code := loopsOk_all (cs := []) (by kernel_rfl) trivial
theorem impl_slotOk_ok (n : Nat) : EntOk Try.prog (ents n) (impl_slotOk_ent n) := by
  intro hs ar y hg h
  replace h : impl_slotOk_D n ar = some y := h
  unfold impl_slotOk_D at h
  replace h := ocons_some h
  obtain ⟨a0, r0, rfl, h⟩ := h
  replace h := onil_some h
  obtain ⟨rfl, h⟩ := h
  obtain ⟨n0, qh0, h⟩ := obind_some h
  rw [argV_eq ok qh0]
  exact call_of (phiE_nat _ _) hs ok mixed Try.func88 (c := impl_slotOk_code) (by kernel_rfl) (impl_slotOk_lo n) (by kernel_rfl) (by kernel_rfl) (by kernel_rfl) impl_slotOk_de ((impl_slotOk_tie n n0).trans h)
noncomputable def slices_Contains_int_int_code : Code := match Try.f89.body with | some c => c | none => .skip
def slices_Contains_int_int_ann : Ann := fun id => none
def slices_Contains_int_int_Ls (n : Nat) : Nat → Option (LSpec T) := fun id => none
theorem slices_Contains_int_int_tie (n : Nat) (s0 : List Int) (v1 : Int) : evF (T := T) (Phi n 25) (slices_Contains_int_int_Ls n) slices_Contains_int_int_ann n Try.f89 (sg 89) [vA T 30 s0, vA T 3 v1] slices_Contains_int_int_dec = slices_Contains_int_int n s0 v1 := by kernel_rfl
theorem slices_Contains_int_int_lo (n : Nat) : LoopsOk (T := T) (Phi n 25) (slices_Contains_int_int_Ls n) slices_Contains_int_int_ann n slices_Contains_int_int_code := loopsOk_all (cs := []) (by kernel_rfl) trivial
theorem slices_Contains_int_int_ok (n : Nat) : EntOk Try.prog (ents n) (slices_Contains_int_int_ent n) := by
  intro hs ar y hg h
  replace h : slices_Contains_int_int_D n ar = some y := h
  unfold slices_Contains_int_int_D at h
  replace h := ocons_some h
  obtain ⟨a0, r0, rfl, h⟩ := h
  replace h := ocons_some h
  obtain ⟨a1, r1, rfl, h⟩ := h
  replace h := onil_some h
  obtain ⟨rfl, h⟩ := h
  obtain ⟨s0, qh0, h⟩ := obind_some h
  obtain ⟨v1, qh1, h⟩ := obind_some h
  rw [argV_eq ok qh0, argV_eq ok qh1]
  exact call_of (phiE_nat _ _) hs ok mixed Try.func89 (c := slices_Contains_int_int_code) (by kernel_rfl) (slices_Contains_int_int_lo n) (by kernel_rfl) (by kernel_rfl) (by kernel_rfl) slices_Contains_int_int_de ((slices_Contains_int_int_tie n s0 v1).trans h)
noncomputable def impl_RadiosOk_code : Code := match Try.f37.body with | some c => c | none => .skip
def impl_RadiosOk_4_sv : List Sv := [.one (.arr 37), .one (.arr 37), .one (.int .i64), .one (.int .i64)]
def impl_RadiosOk_4_so : List So := []
def impl_RadiosOk_4_emb (c : List SRadio × List SRadio × Int) (x : Int) : EVs T impl_RadiosOk_4_sv × EOs T impl_RadiosOk_4_so := ((c.1, c.2.1, c.2.2, x, ()), ())
def impl_RadiosOk_4_prj (y : EVs T impl_RadiosOk_4_sv × EOs T impl_RadiosOk_4_so) : (List SRadio × List SRadio × Int) × Int := ((y.1.1, y.1.2.1, y.1.2.2.1), (y.1.2.2.2.1))
def impl_RadiosOk_4_b (n : Nat) {R : Type} (K : Ex → Sm.St T → Option R) (c : List SRadio × List SRadio × Int) (x : Int) (J : Int → Option R) : Option R :=
  impl_RadiosOk_L4 n (K (.exit 0) (stOf (T := T) [] [] [] [] () ())) (fun (y0 : Bool) => K .ret (stOf (T := T) [2] [] [.one (.bool)] [] (y0, ()) ())) J c.1 c.2.1 c.2.2 x
def impl_RadiosOk_4_sp (n : Nat) : LSpec T := mkSpec T ⟨[], [0, 11, 12, 13], []⟩ impl_RadiosOk_4_sv impl_RadiosOk_4_so (List SRadio × List SRadio × Int) (Int) impl_RadiosOk_4_emb impl_RadiosOk_4_prj (impl_RadiosOk_4_b n)
noncomputable def impl_RadiosOk_4_c : Code := ((loopCodes impl_RadiosOk_code)[0]?).getD .skip
def impl_RadiosOk_9_sv : List Sv := [.one (.arr 37), .one (.int .i64), .one (.ptr 32 0 0), .one (.arr 37), .one (.int .i64), .one (.int .i64), .one (.arr 3), .one (.int .i64), .one (.int .i64)]
def impl_RadiosOk_9_so : List So := [.var [.int .i64, .int .i64, .arr 3]]
def impl_RadiosOk_9_emb (c : List SRadio × Int × List SRadio × Int × Int × List Int × Int × SRadio) (x : Int) : EVs T impl_RadiosOk_9_sv × EOs T impl_RadiosOk_9_so := ((c.1, c.2.1, (), c.2.2.1, c.2.2.2.1, c.2.2.2.2.1, c.2.2.2.2.2.1, c.2.2.2.2.2.2.1, x, ()), ((c.2.2.2.2.2.2.2.Id, c.2.2.2.2.2.2.2.Slot, c.2.2.2.2.2.2.2.Hears, ()), ()))
def impl_RadiosOk_9_prj (y : EVs T impl_RadiosOk_9_sv × EOs T impl_RadiosOk_9_so) : (List SRadio × Int × List SRadio × Int × Int × List Int × Int × SRadio) × Int := ((y.1.1, y.1.2.1, y.1.2.2.2.1, y.1.2.2.2.2.1, y.1.2.2.2.2.2.1, y.1.2.2.2.2.2.2.1, y.1.2.2.2.2.2.2.2.1, ((⟨y.2.1.1, y.2.1.2.1, y.2.1.2.2.1⟩ : SRadio) : SRadio)), (y.1.2.2.2.2.2.2.2.2.1))
def impl_RadiosOk_9_b (n : Nat) {R : Type} (K : Ex → Sm.St T → Option R) (c : List SRadio × Int × List SRadio × Int × Int × List Int × Int × SRadio) (x : Int) (J : Int → Option R) : Option R :=
  impl_RadiosOk_L9 n (K (.exit 2) (stOf (T := T) [0, 11, 12, 13] [] [.one (.arr 37), .one (.arr 37), .one (.int .i64), .one (.int .i64)] [] (c.1, c.2.2.1, c.2.2.2.1, c.2.2.2.2.1, ()) ())) (fun (y0 : Bool) => K .ret (stOf (T := T) [2] [] [.one (.bool)] [] (y0, ()) ())) J c.1 c.2.1 c.2.2.1 c.2.2.2.1 c.2.2.2.2.1 c.2.2.2.2.2.1 c.2.2.2.2.2.2.1 x c.2.2.2.2.2.2.2
def impl_RadiosOk_9_sp (n : Nat) : LSpec T := mkSpec T ⟨[], [0, 3, 4, 11, 12, 13, 44, 45, 46], [32]⟩ impl_RadiosOk_9_sv impl_RadiosOk_9_so (List SRadio × Int × List SRadio × Int × Int × List Int × Int × SRadio) (Int) impl_RadiosOk_9_emb impl_RadiosOk_9_prj (impl_RadiosOk_9_b n)
noncomputable def impl_RadiosOk_9_c : Code := ((loopCodes impl_RadiosOk_code)[1]?).getD .skip
def impl_RadiosOk_ann : Ann := fun id => bif Nat.beq id 3000004 then some ⟨[], [], []⟩ else bif Nat.beq id 2000004 then some ⟨[], [2], []⟩ else bif Nat.beq id 5000009 then some ⟨[], [0, 11, 12, 13], []⟩ else bif Nat.beq id 2000009 then some ⟨[], [2], []⟩ else none
def impl_RadiosOk_Ls (n : Nat) : Nat → Option (LSpec T) := fun id => bif Nat.beq id 4 then some (impl_RadiosOk_4_sp n) else bif Nat.beq id 9 then some (impl_RadiosOk_9_sp n) else none
theorem impl_RadiosOk_4_le (n : Nat) : LoopEq (T := T) (Phi n 26) (impl_RadiosOk_Ls n) impl_RadiosOk_ann n impl_RadiosOk_4_c (impl_RadiosOk_4_sp n) := ⟨mkSpec_dec (fun y => rfl), fun c x => by kernel_rfl, fun K J c x => by kernel_rfl⟩
theorem impl_RadiosOk_9_le (n : Nat) : LoopEq (T := T) (Phi n 26) (impl_RadiosOk_Ls n) impl_RadiosOk_ann n impl_RadiosOk_9_c (impl_RadiosOk_9_sp n) := ⟨mkSpec_dec (fun y => rfl), fun c x => by kernel_rfl, fun K J c x => by kernel_rfl⟩
theorem impl_RadiosOk_tie (n : Nat) (list0 : List SRadio) : evF (T := T) (Phi n 26) (impl_RadiosOk_Ls n) impl_RadiosOk_ann n Try.f37 (sg 37) [vA T 33 list0] impl_RadiosOk_dec = impl_RadiosOk n list0 := by kernel_rfl
theorem impl_RadiosOk_lo (n : Nat) : LoopsOk (T := T) (Phi n 26) (impl_RadiosOk_Ls n) impl_RadiosOk_ann n impl_RadiosOk_code := loopsOk_all (cs := [impl_RadiosOk_4_c, impl_RadiosOk_9_c]) (by kernel_rfl) ⟨⟨_, by kernel_rfl, impl_RadiosOk_4_le n⟩, ⟨_, by kernel_rfl, impl_RadiosOk_9_le n⟩, trivial⟩
theorem impl_RadiosOk_ok (n : Nat) : EntOk Try.prog (ents n) (impl_RadiosOk_ent n) := by
  intro hs ar y hg h
  replace h : impl_RadiosOk_D n ar = some y := h
  unfold impl_RadiosOk_D at h
  replace h := ocons_some h
  obtain ⟨a0, r0, rfl, h⟩ := h
  replace h := onil_some h
  obtain ⟨rfl, h⟩ := h
  obtain ⟨list0, qh0, h⟩ := obind_some h
  rw [argV_eq ok qh0]
  exact call_of (phiE_nat _ _) hs ok mixed Try.func37 (c := impl_RadiosOk_code) (by kernel_rfl) (impl_RadiosOk_lo n) (by kernel_rfl) (by kernel_rfl) (by kernel_rfl) impl_RadiosOk_de ((impl_RadiosOk_tie n list0).trans h)
noncomputable def impl_Settle_1_code : Code := match Try.f39.body with | some c => c | none => .skip
def impl_Settle_1_ann : Ann := fun id => none
def impl_Settle_1_Ls (n : Nat) : Nat → Option (LSpec T) := fun id => none
theorem impl_Settle_1_tie (n : Nat) (c0 : Int) : evF (T := T) (Phi n 27) (impl_Settle_1_Ls n) impl_Settle_1_ann n Try.f39 (sg 39) [vA T 3 c0] impl_Settle_1_dec = impl_Settle_1 n c0 := by kernel_rfl
theorem impl_Settle_1_lo (n : Nat) : LoopsOk (T := T) (Phi n 27) (impl_Settle_1_Ls n) impl_Settle_1_ann n impl_Settle_1_code := loopsOk_all (cs := []) (by kernel_rfl) trivial
theorem impl_Settle_1_ok (n : Nat) : EntOk Try.prog (ents n) (impl_Settle_1_ent n) := by
  intro hs ar y hg h
  replace h : impl_Settle_1_D n ar = some y := h
  unfold impl_Settle_1_D at h
  replace h := ocons_some h
  obtain ⟨a0, r0, rfl, h⟩ := h
  replace h := onil_some h
  obtain ⟨rfl, h⟩ := h
  obtain ⟨c0, qh0, h⟩ := obind_some h
  rw [argV_eq ok qh0]
  exact call_of (phiE_nat _ _) hs ok mixed Try.func39 (c := impl_Settle_1_code) (by kernel_rfl) (impl_Settle_1_lo n) (by kernel_rfl) (by kernel_rfl) (by kernel_rfl) impl_Settle_1_de ((impl_Settle_1_tie n c0).trans h)
noncomputable def slices_IndexFunc_int_int__impl_Settle_1_code : Code := match Try.f90.body with | some c => c | none => .skip
def slices_IndexFunc_int_int__impl_Settle_1_2_sv : List Sv := [.one (.arr 3), .one (.fn 39 []), .one (.int .i64), .one (.int .i64)]
def slices_IndexFunc_int_int__impl_Settle_1_2_so : List So := []
def slices_IndexFunc_int_int__impl_Settle_1_2_emb (c : List Int × Int) (x : Int) : EVs T slices_IndexFunc_int_int__impl_Settle_1_2_sv × EOs T slices_IndexFunc_int_int__impl_Settle_1_2_so := ((c.1, (), c.2, x, ()), ())
def slices_IndexFunc_int_int__impl_Settle_1_2_prj (y : EVs T slices_IndexFunc_int_int__impl_Settle_1_2_sv × EOs T slices_IndexFunc_int_int__impl_Settle_1_2_so) : (List Int × Int) × Int := ((y.1.1, y.1.2.2.1), (y.1.2.2.2.1))
def slices_IndexFunc_int_int__impl_Settle_1_2_b (n : Nat) {R : Type} (K : Ex → Sm.St T → Option R) (c : List Int × Int) (x : Int) (J : Int → Option R) : Option R :=
  slices_IndexFunc_int_int__impl_Settle_1_L2 n (K (.exit 0) (stOf (T := T) [] [] [] [] () ())) (fun (y0 : Int) => K .ret (stOf (T := T) [4] [] [.one (.int .i64)] [] (y0, ()) ())) J c.1 c.2 x
def slices_IndexFunc_int_int__impl_Settle_1_2_sp (n : Nat) : LSpec T := mkSpec T ⟨[], [0, 1, 7, 8], []⟩ slices_IndexFunc_int_int__impl_Settle_1_2_sv slices_IndexFunc_int_int__impl_Settle_1_2_so (List Int × Int) (Int) slices_IndexFunc_int_int__impl_Settle_1_2_emb slices_IndexFunc_int_int__impl_Settle_1_2_prj (slices_IndexFunc_int_int__impl_Settle_1_2_b n)
noncomputable def slices_IndexFunc_int_int__impl_Settle_1_2_c : Code := ((loopCodes slices_IndexFunc_int_int__impl_Settle_1_code)[0]?).getD .skip
def slices_IndexFunc_int_int__impl_Settle_1_ann : Ann := fun id => bif Nat.beq id 3000002 then some ⟨[], [], []⟩ else bif Nat.beq id 2000002 then some ⟨[], [4], []⟩ else none
def slices_IndexFunc_int_int__impl_Settle_1_Ls (n : Nat) : Nat → Option (LSpec T) := fun id => bif Nat.beq id 2 then some (slices_IndexFunc_int_int__impl_Settle_1_2_sp n) else none
theorem slices_IndexFunc_int_int__impl_Settle_1_2_le (n : Nat) : LoopEq (T := T) (Phi n 28) (slices_IndexFunc_int_int__impl_Settle_1_Ls n) slices_IndexFunc_int_int__impl_Settle_1_ann n slices_IndexFunc_int_int__impl_Settle_1_2_c (slices_IndexFunc_int_int__impl_Settle_1_2_sp n) := ⟨mkSpec_dec (fun y => rfl), fun c x => by kernel_rfl, fun K J c x => by kernel_rfl⟩
theorem slices_IndexFunc_int_int__impl_Settle_1_tie (n : Nat) (s0 : List Int) : evF (T := T) (Phi n 28) (slices_IndexFunc_int_int__impl_Settle_1_Ls n) slices_IndexFunc_int_int__impl_Settle_1_ann n Try.f90 (sg 90) [vA T 30 s0, .fn 39 []] slices_IndexFunc_int_int__impl_Settle_1_dec = slices_IndexFunc_int_int__impl_Settle_1 n s0 := by kernel_rfl
theorem slices_IndexFunc_int_int__impl_Settle_1_lo (n : Nat) : LoopsOk (T := T) (Phi n 28) (slices_IndexFunc_int_int__impl_Settle_1_Ls n) slices_IndexFunc_int_int__impl_Settle_1_ann n slices_IndexFunc_int_int__impl_Settle_1_code := loopsOk_all (cs := [slices_IndexFunc_int_int__impl_Settle_1_2_c]) (by kernel_rfl) ⟨⟨_, by kernel_rfl, slices_IndexFunc_int_int__impl_Settle_1_2_le n⟩, trivial⟩
theorem slices_IndexFunc_int_int__impl_Settle_1_ok (n : Nat) : EntOk Try.prog (ents n) (slices_IndexFunc_int_int__impl_Settle_1_ent n) := by
  intro hs ar y hg h
  replace h : slices_IndexFunc_int_int__impl_Settle_1_D n ar = some y := h
  unfold slices_IndexFunc_int_int__impl_Settle_1_D at h
  split at h
  · obtain ⟨s0, qh0, h⟩ := obind_some h
    rw [argV_eq ok qh0] at hg ⊢
    cases (show [_] = [39] from natsEq_eq hg)
    exact call_of (phiE_nat _ _) hs ok mixed Try.func90 (c := slices_IndexFunc_int_int__impl_Settle_1_code) (by kernel_rfl) (slices_IndexFunc_int_int__impl_Settle_1_lo n) (by kernel_rfl) (by kernel_rfl) (by kernel_rfl) slices_IndexFunc_int_int__impl_Settle_1_de ((slices_IndexFunc_int_int__impl_Settle_1_tie n s0).trans h)
  · cases h
noncomputable def slices_ContainsFunc_int_int__impl_Settle_1_code : Code := match Try.f38.body with | some c => c | none => .skip
def slices_ContainsFunc_int_int__impl_Settle_1_ann : Ann := fun id => none
def slices_ContainsFunc_int_int__impl_Settle_1_Ls (n : Nat) : Nat → Option (LSpec T) := fun id => none
theorem slices_ContainsFunc_int_int__impl_Settle_1_tie (n : Nat) (s0 : List Int) : evF (T := T) (Phi n 29) (slices_ContainsFunc_int_int__impl_Settle_1_Ls n) slices_ContainsFunc_int_int__impl_Settle_1_ann n Try.f38 (sg 38) [vA T 30 s0, .fn 39 []] slices_ContainsFunc_int_int__impl_Settle_1_dec = slices_ContainsFunc_int_int__impl_Settle_1 n s0 := by kernel_rfl
theorem slices_ContainsFunc_int_int__impl_Settle_1_lo (n : Nat) : LoopsOk (T := T) (Phi n 29) (slices_ContainsFunc_int_int__impl_Settle_1_Ls n) slices_ContainsFunc_int_int__impl_Settle_1_ann n slices_ContainsFunc_int_int__impl_Settle_1_code := loopsOk_all (cs := []) (by kernel_rfl) trivial
theorem slices_ContainsFunc_int_int__impl_Settle_1_ok (n : Nat) : EntOk Try.prog (ents n) (slices_ContainsFunc_int_int__impl_Settle_1_ent n) := by
  intro hs ar y hg h
  replace h : slices_ContainsFunc_int_int__impl_Settle_1_D n ar = some y := h
  unfold slices_ContainsFunc_int_int__impl_Settle_1_D at h
  split at h
  · obtain ⟨s0, qh0, h⟩ := obind_some h
    rw [argV_eq ok qh0] at hg ⊢
    cases (show [_] = [39] from natsEq_eq hg)
    exact call_of (phiE_nat _ _) hs ok mixed Try.func38 (c := slices_ContainsFunc_int_int__impl_Settle_1_code) (by kernel_rfl) (slices_ContainsFunc_int_int__impl_Settle_1_lo n) (by kernel_rfl) (by kernel_rfl) (by kernel_rfl) slices_ContainsFunc_int_int__impl_Settle_1_de ((slices_ContainsFunc_int_int__impl_Settle_1_tie n s0).trans h)
  · cases h
noncomputable def impl_own_impl_Radio_code : Code := match Try.f40.body with | some c => c | none => .skip
def impl_own_impl_Radio_ann : Ann := fun id => none
def impl_own_impl_Radio_Ls (n : Nat) : Nat → Option (LSpec T) := fun id => none
theorem impl_own_impl_Radio_tie (n : Nat) (l0 : List SRadio) : evF (T := T) (Phi n 30) (impl_own_impl_Radio_Ls n) impl_own_impl_Radio_ann n Try.f40 (sg 40) [vA T 33 l0] impl_own_impl_Radio_dec = impl_own_impl_Radio n l0 := by kernel_rfl
theorem impl_own_impl_Radio_lo (n : Nat) : LoopsOk (T := T) (Phi n 30) (impl_own_impl_Radio_Ls n) impl_own_impl_Radio_ann n impl_own_impl_Radio_code := loopsOk_all (cs := []) (by kernel_rfl) trivial
theorem impl_own_impl_Radio_ok (n : Nat) : EntOk Try.prog (ents n) (impl_own_impl_Radio_ent n) := by
  intro hs ar y hg h
  replace h : impl_own_impl_Radio_D n ar = some y := h
  unfold impl_own_impl_Radio_D at h
  replace h := ocons_some h
  obtain ⟨a0, r0, rfl, h⟩ := h
  replace h := onil_some h
  obtain ⟨rfl, h⟩ := h
  obtain ⟨l0, qh0, h⟩ := obind_some h
  rw [argV_eq ok qh0]
  exact call_of (phiE_nat _ _) hs ok mixed Try.func40 (c := impl_own_impl_Radio_code) (by kernel_rfl) (impl_own_impl_Radio_lo n) (by kernel_rfl) (by kernel_rfl) (by kernel_rfl) impl_own_impl_Radio_de ((impl_own_impl_Radio_tie n l0).trans h)
noncomputable def impl_Clashes_1_code : Code := match Try.f91.body with | some c => c | none => .skip
def impl_Clashes_1_ann : Ann := fun id => none
def impl_Clashes_1_Ls (n : Nat) : Nat → Option (LSpec T) := fun id => none
theorem impl_Clashes_1_tie (n : Nat) (h0 : Int) (a1 : List SRadio) (a2 : SRadio) : evF (T := T) (Phi n 31) (impl_Clashes_1_Ls n) impl_Clashes_1_ann n Try.f91 (sg 91) [vA T 3 h0, .ptr 33 a1, .ptr 37 a2] impl_Clashes_1_dec = impl_Clashes_1 n h0 a1 a2 := by kernel_rfl
theorem impl_Clashes_1_lo (n : Nat) : LoopsOk (T := T) (Phi n 31) (impl_Clashes_1_Ls n) impl_Clashes_1_ann n impl_Clashes_1_code := loopsOk_all (cs := []) (by kernel_rfl) trivial
theorem impl_Clashes_1_ok (n : Nat) : EntOk Try.prog (ents n) (impl_Clashes_1_ent n) := by
  intro hs ar y hg h
  replace h : impl_Clashes_1_D n ar = some y := h
  unfold impl_Clashes_1_D at h
  replace h := ocons_some h
  obtain ⟨a0, r0, rfl, h⟩ := h
  replace h := ocons_some h
  obtain ⟨a1, r1, rfl, h⟩ := h
  replace h := ocons_some h
  obtain ⟨a2, r2, rfl, h⟩ := h
  replace h := onil_some h
  obtain ⟨rfl, h⟩ := h
  obtain ⟨h0, qh0, h⟩ := obind_some h
  obtain ⟨a1, qh1, h⟩ := obind_some h
  obtain ⟨a2, qh2, h⟩ := obind_some h
  rw [argV_eq ok qh0, argP_eq qh1, argP_eq qh2]
  exact call_of (phiE_nat _ _) hs ok mixed Try.func91 (c := impl_Clashes_1_code) (by kernel_rfl) (impl_Clashes_1_lo n) (by kernel_rfl) (by kernel_rfl) (by kernel_rfl) impl_Clashes_1_de ((impl_Clashes_1_tie n h0 a1 a2).trans h)
noncomputable def slices_IndexFunc_int_int__impl_Clashes_1_code : Code := match Try.f90.body with | some c => c | none => .skip
def slices_IndexFunc_int_int__impl_Clashes_1_2_sv : List Sv := [.one (.arr 3), .one (.fnr 91 [33, 37]), .one (.int .i64), .one (.int .i64)]
def slices_IndexFunc_int_int__impl_Clashes_1_2_so : List So := []
def slices_IndexFunc_int_int__impl_Clashes_1_2_emb (c : List Int × List SRadio × SRadio × Int) (x : Int) : EVs T slices_IndexFunc_int_int__impl_Clashes_1_2_sv × EOs T slices_IndexFunc_int_int__impl_Clashes_1_2_so := ((c.1, (c.2.1, c.2.2.1, ()), c.2.2.2, x, ()), ())
def slices_IndexFunc_int_int__impl_Clashes_1_2_prj (y : EVs T slices_IndexFunc_int_int__impl_Clashes_1_2_sv × EOs T slices_IndexFunc_int_int__impl_Clashes_1_2_so) : (List Int × List SRadio × SRadio × Int) × Int := ((y.1.1, y.1.2.1.1, y.1.2.1.2.1, y.1.2.2.1), (y.1.2.2.2.1))
def slices_IndexFunc_int_int__impl_Clashes_1_2_b (n : Nat) {R : Type} (K : Ex → Sm.St T → Option R) (c : List Int × List SRadio × SRadio × Int) (x : Int) (J : Int → Option R) : Option R :=
  slices_IndexFunc_int_int__impl_Clashes_1_L2 n (K (.exit 0) (stOf (T := T) [] [] [] [] () ())) (fun (y0 : Int) => K .ret (stOf (T := T) [4] [] [.one (.int .i64)] [] (y0, ()) ())) J c.1 c.2.1 c.2.2.1 c.2.2.2 x
def slices_IndexFunc_int_int__impl_Clashes_1_2_sp (n : Nat) : LSpec T := mkSpec T ⟨[], [0, 1, 7, 8], []⟩ slices_IndexFunc_int_int__impl_Clashes_1_2_sv slices_IndexFunc_int_int__impl_Clashes_1_2_so (List Int × List SRadio × SRadio × Int) (Int) slices_IndexFunc_int_int__impl_Clashes_1_2_emb slices_IndexFunc_int_int__impl_Clashes_1_2_prj (slices_IndexFunc_int_int__impl_Clashes_1_2_b n)
noncomputable def slices_IndexFunc_int_int__impl_Clashes_1_2_c : Code := ((loopCodes slices_IndexFunc_int_int__impl_Clashes_1_code)[0]?).getD .skip
def slices_IndexFunc_int_int__impl_Clashes_1_ann : Ann := fun id => bif Nat.beq id 3000002 then some ⟨[], [], []⟩ else bif Nat.beq id 2000002 then some ⟨[], [4], []⟩ else none
def slices_IndexFunc_int_int__impl_Clashes_1_Ls (n : Nat) : Nat → Option (LSpec T) := fun id => bif Nat.beq id 2 then some (slices_IndexFunc_int_int__impl_Clashes_1_2_sp n) else none
theorem slices_IndexFunc_int_int__impl_Clashes_1_2_le (n : Nat) : LoopEq (T := T) (Phi n 32) (slices_IndexFunc_int_int__impl_Clashes_1_Ls n) slices_IndexFunc_int_int__impl_Clashes_1_ann n slices_IndexFunc_int_int__impl_Clashes_1_2_c (slices_IndexFunc_int_int__impl_Clashes_1_2_sp n) := ⟨mkSpec_dec (fun y => rfl), fun c x => by kernel_rfl, fun K J c x => by kernel_rfl⟩
theorem slices_IndexFunc_int_int__impl_Clashes_1_tie (n : Nat) (s0 : List Int) (f1c0 : List SRadio) (f1c1 : SRadio) : evF (T := T) (Phi n 32) (slices_IndexFunc_int_int__impl_Clashes_1_Ls n) slices_IndexFunc_int_int__impl_Clashes_1_ann n Try.f90 (sg 90) [vA T 30 s0, .fn 91 [.ptr 33 f1c0, .ptr 37 f1c1]] slices_IndexFunc_int_int__impl_Clashes_1_dec = slices_IndexFunc_int_int__impl_Clashes_1 n s0 f1c0 f1c1 := by kernel_rfl
theorem slices_IndexFunc_int_int__impl_Clashes_1_lo (n : Nat) : LoopsOk (T := T) (Phi n 32) (slices_IndexFunc_int_int__impl_Clashes_1_Ls n) slices_IndexFunc_int_int__impl_Clashes_1_ann n slices_IndexFunc_int_int__impl_Clashes_1_code := loopsOk_all (cs := [slices_IndexFunc_int_int__impl_Clashes_1_2_c]) (by kernel_rfl) ⟨⟨_, by kernel_rfl, slices_IndexFunc_int_int__impl_Clashes_1_2_le n⟩, trivial⟩
theorem slices_IndexFunc_int_int__impl_Clashes_1_ok (n : Nat) : EntOk Try.prog (ents n) (slices_IndexFunc_int_int__impl_Clashes_1_ent n) := by
  intro hs ar y hg h
  replace h : slices_IndexFunc_int_int__impl_Clashes_1_D n ar = some y := h
  unfold slices_IndexFunc_int_int__impl_Clashes_1_D at h
  split at h
  · obtain ⟨s0, qh0, h⟩ := obind_some h
    obtain ⟨f1c0, qh1, h⟩ := obind_some h
    obtain ⟨f1c1, qh2, h⟩ := obind_some h
    rw [argV_eq ok qh0, argP_eq qh1, argP_eq qh2] at hg ⊢
    cases (show [_] = [91] from natsEq_eq hg)
    exact call_of (phiE_nat _ _) hs ok mixed Try.func90 (c := slices_IndexFunc_int_int__impl_Clashes_1_code) (by kernel_rfl) (slices_IndexFunc_int_int__impl_Clashes_1_lo n) (by kernel_rfl) (by kernel_rfl) (by kernel_rfl) slices_IndexFunc_int_int__impl_Clashes_1_de ((slices_IndexFunc_int_int__impl_Clashes_1_tie n s0 f1c0 f1c1).trans h)
  · cases h
noncomputable def slices_ContainsFunc_int_int__impl_Clashes_1_code : Code := match Try.f38.body with | some c => c | none => .skip
def slices_ContainsFunc_int_int__impl_Clashes_1_ann : Ann := fun id => none
def slices_ContainsFunc_int_int__impl_Clashes_1_Ls (n : Nat) : Nat → Option (LSpec T) := fun id => none
theorem slices_ContainsFunc_int_int__impl_Clashes_1_tie (n : Nat) (s0 : List Int) (f1c0 : List SRadio) (f1c1 : SRadio) : evF (T := T) (Phi n 33) (slices_ContainsFunc_int_int__impl_Clashes_1_Ls n) slices_ContainsFunc_int_int__impl_Clashes_1_ann n Try.f38 (sg 38) [vA T 30 s0, .fn 91 [.ptr 33 f1c0, .ptr 37 f1c1]] slices_ContainsFunc_int_int__impl_Clashes_1_dec = slices_ContainsFunc_int_int__impl_Clashes_1 n s0 f1c0 f1c1 := by kernel_rfl
theorem slices_ContainsFunc_int_int__impl_Clashes_1_lo (n : Nat) : LoopsOk (T := T) (Phi n 33) (slices_ContainsFunc_int_int__impl_Clashes_1_Ls n) slices_ContainsFunc_int_int__impl_Clashes_1_ann n slices_ContainsFunc_int_int__impl_Clashes_1_code := loopsOk_all (cs := []) (by kernel_rfl) trivial
theorem slices_ContainsFunc_int_int__impl_Clashes_1_ok (n : Nat) : EntOk Try.prog (ents n) (slices_ContainsFunc_int_int__impl_Clashes_1_ent n) := by
  intro hs ar y hg h
  replace h : slices_ContainsFunc_int_int__impl_Clashes_1_D n ar = some y := h
  unfold slices_ContainsFunc_int_int__impl_Clashes_1_D at h
  split at h
  · obtain ⟨s0, qh0, h⟩ := obind_some h
    obtain ⟨f1c0, qh1, h⟩ := obind_some h
    obtain ⟨f1c1, qh2, h⟩ := obind_some h
    rw [argV_eq ok qh0, argP_eq qh1, argP_eq qh2] at hg ⊢
    cases (show [_] = [91] from natsEq_eq hg)
    exact call_of (phiE_nat _ _) hs ok mixed Try.func38 (c := slices_ContainsFunc_int_int__impl_Clashes_1_code) (by kernel_rfl) (slices_ContainsFunc_int_int__impl_Clashes_1_lo n) (by kernel_rfl) (by kernel_rfl) (by kernel_rfl) slices_ContainsFunc_int_int__impl_Clashes_1_de ((slices_ContainsFunc_int_int__impl_Clashes_1_tie n s0 f1c0 f1c1).trans h)
  · cases h
noncomputable def impl_Clashes_code : Code := match Try.f41.body with | some c => c | none => .skip
def impl_Clashes_5_sv : List Sv := [.one (.ptr 8 0 0), .one (.own 3000000 3 false), .one (.arr 37), .one (.int .i64), .one (.int .i64)]
def impl_Clashes_5_so : List So := [.var [.arr 37], .arr 3 false]
def impl_Clashes_5_emb (c : List SRadio × Int × List SRadio) (x : Int × List Int) : EVs T impl_Clashes_5_sv × EOs T impl_Clashes_5_so := (((), (), c.1, c.2.1, x.1, ()), ((c.2.2, ()), x.2, ()))
def impl_Clashes_5_prj (y : EVs T impl_Clashes_5_sv × EOs T impl_Clashes_5_so) : (List SRadio × Int × List SRadio) × (Int × List Int) := ((y.1.2.2.1, y.1.2.2.2.1, y.2.1.1), (y.1.2.2.2.2.1, y.2.2.1))
def impl_Clashes_5_b (n : Nat) {R : Type} (K : Ex → Sm.St T → Option R) (c : List SRadio × Int × List SRadio) (x : Int × List Int) (J : (Int × List Int) → Option R) : Option R :=
  impl_Clashes_L5 n (fun (y0 : List Int) => K (.exit 0) (stOf (T := T) [3] [3000000] [.one (.own 3000000 3 false)] [.arr 3 false] ((), ()) (y0, ()))) (fun z0 z1 => J (z0, z1)) c.1 c.2.1 x.1 c.2.2 x.2
def impl_Clashes_5_sp (n : Nat) : LSpec T := mkSpec T ⟨[((.reg 3), 3000000, 3)], [1, 3, 9, 10, 11], [8, 3000000]⟩ impl_Clashes_5_sv impl_Clashes_5_so (List SRadio × Int × List SRadio) (Int × List Int) impl_Clashes_5_emb impl_Clashes_5_prj (impl_Clashes_5_b n)
noncomputable def impl_Clashes_5_c : Code := ((loopCodes impl_Clashes_code)[0]?).getD .skip
def impl_Clashes_ann : Ann := fun id => bif Nat.beq id 3000005 then some ⟨[((.reg 3), 3000000, 3)], [3], [3000000]⟩ else none
def impl_Clashes_Ls (n : Nat) : Nat → Option (LSpec T) := fun id => bif Nat.beq id 5 then some (impl_Clashes_5_sp n) else none
theorem impl_Clashes_5_le (n : Nat) : LoopEq (T := T) (Phi n 34) (impl_Clashes_Ls n) impl_Clashes_ann n impl_Clashes_5_c (impl_Clashes_5_sp n) := ⟨mkSpec_dec (fun y => rfl), fun c x => by kernel_rfl, fun K J c x => by kernel_rfl⟩
theorem impl_Clashes_tie (n : Nat) (list0 : List SRadio) : evF (T := T) (Phi n 34) (impl_Clashes_Ls n) impl_Clashes_ann n Try.f41 (sg 41) [vA T 33 list0] impl_Clashes_dec = impl_Clashes n list0 := by kernel_rfl
theorem impl_Clashes_lo (n : Nat) : LoopsOk (T := T) (Phi n 34) (impl_Clashes_Ls n) impl_Clashes_ann n impl_Clashes_code := loopsOk_all (cs := [impl_Clashes_5_c]) (by kernel_rfl) ⟨⟨_, by kernel_rfl, impl_Clashes_5_le n⟩, trivial⟩
theorem impl_Clashes_ok (n : Nat) : EntOk Try.prog (ents n) (impl_Clashes_ent n) := by
  intro hs ar y hg h
  replace h : impl_Clashes_D n ar = some y := h
  unfold impl_Clashes_D at h
  replace h := ocons_some h
  obtain ⟨a0, r0, rfl, h⟩ := h
  replace h := onil_some h
  obtain ⟨rfl, h⟩ := h
  obtain ⟨list0, qh0, h⟩ := obind_some h
  rw [argV_eq ok qh0]
  exact call_of (phiE_nat _ _) hs ok mixed Try.func41 (c := impl_Clashes_code) (by kernel_rfl) (impl_Clashes_lo n) (by kernel_rfl) (by kernel_rfl) (by kernel_rfl) impl_Clashes_de ((impl_Clashes_tie n list0).trans h)
noncomputable def impl_Choose_1_code : Code := match Try.f92.body with | some c => c | none => .skip
def impl_Choose_1_ann : Ann := fun id => none
def impl_Choose_1_Ls (n : Nat) : Nat → Option (LSpec T) := fun id => none
theorem impl_Choose_1_tie (n : Nat) (h0 : Int) (a1 : List SRadio) (a2 : Int) : evF (T := T) (Phi n 35) (impl_Choose_1_Ls n) impl_Choose_1_ann n Try.f92 (sg 92) [vA T 3 h0, .ptr 33 a1, .ptr 3 a2] impl_Choose_1_dec = impl_Choose_1 n h0 a1 a2 := by kernel_rfl
theorem impl_Choose_1_lo (n : Nat) : LoopsOk (T := T) (Phi n 35) (impl_Choose_1_Ls n) impl_Choose_1_ann n impl_Choose_1_code := loopsOk_all (cs := []) (by kernel_rfl) trivial
theorem impl_Choose_1_ok (n : Nat) : EntOk Try.prog (ents n) (impl_Choose_1_ent n) := by
  intro hs ar y hg h
  replace h : impl_Choose_1_D n ar = some y := h
  unfold impl_Choose_1_D at h
  replace h := ocons_some h
  obtain ⟨a0, r0, rfl, h⟩ := h
  replace h := ocons_some h
  obtain ⟨a1, r1, rfl, h⟩ := h
  replace h := ocons_some h
  obtain ⟨a2, r2, rfl, h⟩ := h
  replace h := onil_some h
  obtain ⟨rfl, h⟩ := h
  obtain ⟨h0, qh0, h⟩ := obind_some h
  obtain ⟨a1, qh1, h⟩ := obind_some h
  obtain ⟨a2, qh2, h⟩ := obind_some h
  rw [argV_eq ok qh0, argP_eq qh1, argP_eq qh2]
  exact call_of (phiE_nat _ _) hs ok mixed Try.func92 (c := impl_Choose_1_code) (by kernel_rfl) (impl_Choose_1_lo n) (by kernel_rfl) (by kernel_rfl) (by kernel_rfl) impl_Choose_1_de ((impl_Choose_1_tie n h0 a1 a2).trans h)
noncomputable def slices_IndexFunc_int_int__impl_Choose_1_code : Code := match Try.f90.body with | some c => c | none => .skip
def slices_IndexFunc_int_int__impl_Choose_1_2_sv : List Sv := [.one (.arr 3), .one (.fnr 92 [33, 3]), .one (.int .i64), .one (.int .i64)]
def slices_IndexFunc_int_int__impl_Choose_1_2_so : List So := []
def slices_IndexFunc_int_int__impl_Choose_1_2_emb (c : List Int × List SRadio × Int × Int) (x : Int) : EVs T slices_IndexFunc_int_int__impl_Choose_1_2_sv × EOs T slices_IndexFunc_int_int__impl_Choose_1_2_so := ((c.1, (c.2.1, c.2.2.1, ()), c.2.2.2, x, ()), ())
def slices_IndexFunc_int_int__impl_Choose_1_2_prj (y : EVs T slices_IndexFunc_int_int__impl_Choose_1_2_sv × EOs T slices_IndexFunc_int_int__impl_Choose_1_2_so) : (List Int × List SRadio × Int × Int) × Int := ((y.1.1, y.1.2.1.1, y.1.2.1.2.1, y.1.2.2.1), (y.1.2.2.2.1))
def slices_IndexFunc_int_int__impl_Choose_1_2_b (n : Nat) {R : Type} (K : Ex → Sm.St T → Option R) (c : List Int × List SRadio × Int × Int) (x : Int) (J : Int → Option R) : Option R :=
  slices_IndexFunc_int_int__impl_Choose_1_L2 n (K (.exit 0) (stOf (T := T) [] [] [] [] () ())) (fun (y0 : Int) => K .ret (stOf (T := T) [4] [] [.one (.int .i64)] [] (y0, ()) ())) J c.1 c.2.1 c.2.2.1 c.2.2.2 x
def slices_IndexFunc_int_int__impl_Choose_1_2_sp (n : Nat) : LSpec T := mkSpec T ⟨[], [0, 1, 7, 8], []⟩ slices_IndexFunc_int_int__impl_Choose_1_2_sv slices_IndexFunc_int_int__impl_Choose_1_2_so (List Int × List SRadio × Int × Int) (Int) slices_IndexFunc_int_int__impl_Choose_1_2_emb slices_IndexFunc_int_int__impl_Choose_1_2_prj (slices_IndexFunc_int_int__impl_Choose_1_2_b n)
noncomputable def slices_IndexFunc_int_int__impl_Choose_1_2_c : Code := ((loopCodes slices_IndexFunc_int_int__impl_Choose_1_code)[0]?).getD .skip
def slices_IndexFunc_int_int__impl_Choose_1_ann : Ann := fun id => bif Nat.beq id 3000002 then some ⟨[], [], []⟩ else bif Nat.beq id 2000002 then some ⟨[], [4], []⟩ else none
def slices_IndexFunc_int_int__impl_Choose_1_Ls (n : Nat) : Nat → Option (LSpec T) := fun id => bif Nat.beq id 2 then some (slices_IndexFunc_int_int__impl_Choose_1_2_sp n) else none
theorem slices_IndexFunc_int_int__impl_Choose_1_2_le (n : Nat) : LoopEq (T := T) (Phi n 36) (slices_IndexFunc_int_int__impl_Choose_1_Ls n) slices_IndexFunc_int_int__impl_Choose_1_ann n slices_IndexFunc_int_int__impl_Choose_1_2_c (slices_IndexFunc_int_int__impl_Choose_1_2_sp n) := ⟨mkSpec_dec (fun y => rfl), fun c x => by kernel_rfl, fun K J c x => by kernel_rfl⟩
theorem slices_IndexFunc_int_int__impl_Choose_1_tie (n : Nat) (s0 : List Int) (f1c0 : List SRadio) (f1c1 : Int) : evF (T := T) (Phi n 36) (slices_IndexFunc_int_int__impl_Choose_1_Ls n) slices_IndexFunc_int_int__impl_Choose_1_ann n Try.f90 (sg 90) [vA T 30 s0, .fn 92 [.ptr 33 f1c0, .ptr 3 f1c1]] slices_IndexFunc_int_int__impl_Choose_1_dec = slices_IndexFunc_int_int__impl_Choose_1 n s0 f1c0 f1c1 := by kernel_rfl
theorem slices_IndexFunc_int_int__impl_Choose_1_lo (n : Nat) : LoopsOk (T := T) (Phi n 36) (slices_IndexFunc_int_int__impl_Choose_1_Ls n) slices_IndexFunc_int_int__impl_Choose_1_ann n slices_IndexFunc_int_int__impl_Choose_1_code := loopsOk_all (cs := [slices_IndexFunc_int_int__impl_Choose_1_2_c]) (by kernel_rfl) ⟨⟨_, by kernel_rfl, slices_IndexFunc_int_int__impl_Choose_1_2_le n⟩, trivial⟩
theorem slices_IndexFunc_int_int__impl_Choose_1_ok (n : Nat) : EntOk Try.prog (ents n) (slices_IndexFunc_int_int__impl_Choose_1_ent n) := by
  intro hs ar y hg h
  replace h : slices_IndexFunc_int_int__impl_Choose_1_D n ar = some y := h
  unfold slices_IndexFunc_int_int__impl_Choose_1_D at h
  split at h
  · obtain ⟨s0, qh0, h⟩ := obind_some h
    obtain ⟨f1c0, qh1, h⟩ := obind_some h
    obtain ⟨f1c1, qh2, h⟩ := obind_some h
    rw [argV_eq ok qh0, argP_eq qh1, argP_eq qh2] at hg ⊢
    cases (show [_] = [92] from natsEq_eq hg)
    exact call_of (phiE_nat _ _) hs ok mixed Try.func90 (c := slices_IndexFunc_int_int__impl_Choose_1_code) (by kernel_rfl) (slices_IndexFunc_int_int__impl_Choose_1_lo n) (by kernel_rfl) (by kernel_rfl) (by kernel_rfl) slices_IndexFunc_int_int__impl_Choose_1_de ((slices_IndexFunc_int_int__impl_Choose_1_tie n s0 f1c0 f1c1).trans h)
  · cases h
noncomputable def slices_ContainsFunc_int_int__impl_Choose_1_code : Code := match Try.f38.body with | some c => c | none => .skip
def slices_ContainsFunc_int_int__impl_Choose_1_ann : Ann := fun id => none
def slices_ContainsFunc_int_int__impl_Choose_1_Ls (n : Nat) : Nat → Option (LSpec T) := fun id => none
theorem slices_ContainsFunc_int_int__impl_Choose_1_tie (n : Nat) (s0 : List Int) (f1c0 : List SRadio) (f1c1 : Int) : evF (T := T) (Phi n 37) (slices_ContainsFunc_int_int__impl_Choose_1_Ls n) slices_ContainsFunc_int_int__impl_Choose_1_ann n Try.f38 (sg 38) [vA T 30 s0, .fn 92 [.ptr 33 f1c0, .ptr 3 f1c1]] slices_ContainsFunc_int_int__impl_Choose_1_dec = slices_ContainsFunc_int_int__impl_Choose_1 n s0 f1c0 f1c1 := by kernel_rfl
theorem slices_ContainsFunc_int_int__impl_Choose_1_lo (n : Nat) : LoopsOk (T := T) (Phi n 37) (slices_ContainsFunc_int_int__impl_Choose_1_Ls n) slices_ContainsFunc_int_int__impl_Choose_1_ann n slices_ContainsFunc_int_int__impl_Choose_1_code := loopsOk_all (cs := []) (by kernel_rfl) trivial
theorem slices_ContainsFunc_int_int__impl_Choose_1_ok (n : Nat) : EntOk Try.prog (ents n) (slices_ContainsFunc_int_int__impl_Choose_1_ent n) := by
  intro hs ar y hg h
  replace h : slices_ContainsFunc_int_int__impl_Choose_1_D n ar = some y := h
  unfold slices_ContainsFunc_int_int__impl_Choose_1_D at h
  split at h
  · obtain ⟨s0, qh0, h⟩ := obind_some h
    obtain ⟨f1c0, qh1, h⟩ := obind_some h
    obtain ⟨f1c1, qh2, h⟩ := obind_some h
    rw [argV_eq ok qh0, argP_eq qh1, argP_eq qh2] at hg ⊢
    cases (show [_] = [92] from natsEq_eq hg)
    exact call_of (phiE_nat _ _) hs ok mixed Try.func38 (c := slices_ContainsFunc_int_int__impl_Choose_1_code) (by kernel_rfl) (slices_ContainsFunc_int_int__impl_Choose_1_lo n) (by kernel_rfl) (by kernel_rfl) (by kernel_rfl) slices_ContainsFunc_int_int__impl_Choose_1_de ((slices_ContainsFunc_int_int__impl_Choose_1_tie n s0 f1c0 f1c1).trans h)
  · cases h
noncomputable def impl_Choose_code : Code := match Try.f42.body with | some c => c | none => .skip
def impl_Choose_5_sv : List Sv := [.one (.int .i64), .one (.int .i64), .one (.ptr 24 0 0), .one (.own 3000000 3 false), .one (.int .i64)]
def impl_Choose_5_so : List So := [.var [.arr 37], .arr 3 false]
def impl_Choose_5_emb (c : Int × Int × List SRadio) (x : Int × List Int) : EVs T impl_Choose_5_sv × EOs T impl_Choose_5_so := ((c.1, c.2.1, (), (), x.1, ()), ((c.2.2, ()), x.2, ()))
def impl_Choose_5_prj (y : EVs T impl_Choose_5_sv × EOs T impl_Choose_5_so) : (Int × Int × List SRadio) × (Int × List Int) := ((y.1.1, y.1.2.1, y.2.1.1), (y.1.2.2.2.2.1, y.2.2.1))
def impl_Choose_5_b (n : Nat) {R : Type} (K : Ex → Sm.St T → Option R) (c : Int × Int × List SRadio) (x : Int × List Int) (J : (Int × List Int) → Option R) : Option R :=
  impl_Choose_L5 n (fun (y3 : List Int) => K (.exit 0) (stOf (T := T) [1, 2, 3, 8] [24, 3000000] [.one (.int .i64), .one (.int .i64), .one (.ptr 24 0 0), .one (.own 3000000 3 false)] [.var [.arr 37], .arr 3 false] (c.1, c.2.1, (), (), ()) ((c.2.2, ()), y3, ()))) (fun z0 z1 => J (z0, z1)) c.1 c.2.1 x.1 c.2.2 x.2
def impl_Choose_5_sp (n : Nat) : LSpec T := mkSpec T ⟨[((.reg 8), 3000000, 3)], [1, 2, 3, 8, 25], [24, 3000000]⟩ impl_Choose_5_sv impl_Choose_5_so (Int × Int × List SRadio) (Int × List Int) impl_Choose_5_emb impl_Choose_5_prj (impl_Choose_5_b n)
noncomputable def impl_Choose_5_c : Code := ((loopCodes impl_Choose_code)[0]?).getD .skip
def impl_Choose_ann : Ann := fun id => bif Nat.beq id 3000005 then some ⟨[((.reg 8), 3000000, 3)], [1, 2, 3, 8], [24, 3000000]⟩ else none
def impl_Choose_Ls (n : Nat) : Nat → Option (LSpec T) := fun id => bif Nat.beq id 5 then some (impl_Choose_5_sp n) else none
theorem impl_Choose_5_le (n : Nat) : LoopEq (T := T) (Phi n 38) (impl_Choose_Ls n) impl_Choose_ann n impl_Choose_5_c (impl_Choose_5_sp n) := ⟨mkSpec_dec (fun y => rfl), fun c x => by kernel_rfl, fun K J c x => by kernel_rfl⟩
theorem impl_Choose_tie (n : Nat) (list0 : List SRadio) (at1 : Int) (coin2 : Int) : evF (T := T) (Phi n 38) (impl_Choose_Ls n) impl_Choose_ann n Try.f42 (sg 42) [vA T 33 list0, vA T 3 at1, vA T 3 coin2] impl_Choose_dec = impl_Choose n list0 at1 coin2 := by kernel_rfl
theorem impl_Choose_lo (n : Nat) : LoopsOk (T := T) (Phi n 38) (impl_Choose_Ls n) impl_Choose_ann n impl_Choose_code := loopsOk_all (cs := [impl_Choose_5_c]) (by kernel_rfl) ⟨⟨_, by kernel_rfl, impl_Choose_5_le n⟩, trivial⟩
theorem impl_Choose_ok (n : Nat) : EntOk Try.prog (ents n) (impl_Choose_ent n) := by
  intro hs ar y hg h
  replace h : impl_Choose_D n ar = some y := h
  unfold impl_Choose_D at h
  replace h := ocons_some h
  obtain ⟨a0, r0, rfl, h⟩ := h
  replace h := ocons_some h
  obtain ⟨a1, r1, rfl, h⟩ := h
  replace h := ocons_some h
  obtain ⟨a2, r2, rfl, h⟩ := h
  replace h := onil_some h
  obtain ⟨rfl, h⟩ := h
  obtain ⟨list0, qh0, h⟩ := obind_some h
  obtain ⟨at1, qh1, h⟩ := obind_some h
  obtain ⟨coin2, qh2, h⟩ := obind_some h
  rw [argV_eq ok qh0, argV_eq ok qh1, argV_eq ok qh2]
  exact call_of (phiE_nat _ _) hs ok mixed Try.func42 (c := impl_Choose_code) (by kernel_rfl) (impl_Choose_lo n) (by kernel_rfl) (by kernel_rfl) (by kernel_rfl) impl_Choose_de ((impl_Choose_tie n list0 at1 coin2).trans h)
noncomputable def impl_Settle_code : Code := match Try.f10.body with | some c => c | none => .skip
def impl_Settle_5_sv : List Sv := [.one (.arr 3), .one (.own 3000000 37 false), .one (.int .i64), .one (.int .i64)]
def impl_Settle_5_so : List So := [.arrU 37 false]
def impl_Settle_5_emb (c : List Int × Int) (x : Int × ((List SRadio) × Nat)) : EVs T impl_Settle_5_sv × EOs T impl_Settle_5_so := ((c.1, (), c.2, x.1, ()), (x.2, ()))
def impl_Settle_5_prj (y : EVs T impl_Settle_5_sv × EOs T impl_Settle_5_so) : (List Int × Int) × (Int × ((List SRadio) × Nat)) := ((y.1.1, y.1.2.2.1), (y.1.2.2.2.1, y.2.1))
def impl_Settle_5_b (n : Nat) {R : Type} (K : Ex → Sm.St T → Option R) (c : List Int × Int) (x : Int × ((List SRadio) × Nat)) (J : (Int × ((List SRadio) × Nat)) → Option R) : Option R :=
  impl_Settle_L5 n (fun (y1 : (List SRadio) × Nat) => K (.exit 0) (stOf (T := T) [1, 7] [3000000] [.one (.arr 3), .one (.own 3000000 37 false)] [.arrU 37 false] (c.1, (), ()) (y1, ()))) (fun z0 z1 => J (z0, z1)) c.1 c.2 x.1 x.2
def impl_Settle_5_sp (n : Nat) : LSpec T := mkSpec T ⟨[((.reg 7), 3000000, 37)], [1, 7, 28, 29], [3000000]⟩ impl_Settle_5_sv impl_Settle_5_so (List Int × Int) (Int × ((List SRadio) × Nat)) impl_Settle_5_emb impl_Settle_5_prj (impl_Settle_5_b n)
noncomputable def impl_Settle_5_c : Code := ((loopCodes impl_Settle_code)[0]?).getD .skip
def impl_Settle_10_sv : List Sv := [.one (.arr 3), .one (.own 3000000 37 false), .one (.int .i64)]
def impl_Settle_10_so : List So := [.arrU 37 false]
def impl_Settle_10_emb (c : List Int) (x : Int × ((List SRadio) × Nat)) : EVs T impl_Settle_10_sv × EOs T impl_Settle_10_so := ((c, (), x.1, ()), (x.2, ()))
def impl_Settle_10_prj (y : EVs T impl_Settle_10_sv × EOs T impl_Settle_10_so) : List Int × (Int × ((List SRadio) × Nat)) := ((y.1.1), (y.1.2.2.1, y.2.1))
def impl_Settle_10_b (n : Nat) {R : Type} (K : Ex → Sm.St T → Option R) (c : List Int) (x : Int × ((List SRadio) × Nat)) (J : (Int × ((List SRadio) × Nat)) → Option R) : Option R :=
  impl_Settle_L10 n (fun (y0 : Int) (y1 : Bool) (y2 : (List SRadio) × Nat) => K .ret (stOf (T := T) [4, 5, 6] [3000001] [.one (.own 3000001 37 false), .one (.int .i64), .one (.bool)] [.arrU 37 false] ((), y0, y1, ()) (y2, ()))) (fun z0 z1 => J (z0, z1)) c x.1 x.2
def impl_Settle_10_sp (n : Nat) : LSpec T := mkSpec T ⟨[((.reg 7), 3000000, 37)], [1, 7, 9], [3000000]⟩ impl_Settle_10_sv impl_Settle_10_so (List Int) (Int × ((List SRadio) × Nat)) impl_Settle_10_emb impl_Settle_10_prj (impl_Settle_10_b n)
noncomputable def impl_Settle_10_c : Code := ((loopCodes impl_Settle_code)[1]?).getD .skip
def impl_Settle_ann : Ann := fun id => bif Nat.beq id 3000005 then some ⟨[((.reg 7), 3000000, 37)], [1, 7], [3000000]⟩ else bif Nat.beq id 2000010 then some ⟨[((.reg 4), 3000001, 37)], [4, 5, 6], [3000001]⟩ else none
def impl_Settle_Ls (n : Nat) : Nat → Option (LSpec T) := fun id => bif Nat.beq id 5 then some (impl_Settle_5_sp n) else bif Nat.beq id 10 then some (impl_Settle_10_sp n) else none
theorem impl_Settle_5_le (n : Nat) : LoopEq (T := T) (Phi n 39) (impl_Settle_Ls n) impl_Settle_ann n impl_Settle_5_c (impl_Settle_5_sp n) := ⟨mkSpec_dec (fun y => rfl), fun c x => by kernel_rfl, fun K J c x => by kernel_rfl⟩
theorem impl_Settle_10_le (n : Nat) : LoopEq (T := T) (Phi n 39) (impl_Settle_Ls n) impl_Settle_ann n impl_Settle_10_c (impl_Settle_10_sp n) := ⟨mkSpec_dec (fun y => rfl), fun c x => by kernel_rfl, fun K J c x => by kernel_rfl⟩
theorem impl_Settle_tie (n : Nat) (list0 : List SRadio) (coins1 : List Int) : evF (T := T) (Phi n 39) (impl_Settle_Ls n) impl_Settle_ann n Try.f10 (sg 10) [vA T 33 list0, vA T 30 coins1] impl_Settle_dec = impl_Settle n list0 coins1 := by kernel_rfl
theorem impl_Settle_lo (n : Nat) : LoopsOk (T := T) (Phi n 39) (impl_Settle_Ls n) impl_Settle_ann n impl_Settle_code := loopsOk_all (cs := [impl_Settle_5_c, impl_Settle_10_c]) (by kernel_rfl) ⟨⟨_, by kernel_rfl, impl_Settle_5_le n⟩, ⟨_, by kernel_rfl, impl_Settle_10_le n⟩, trivial⟩
theorem impl_Settle_ok (n : Nat) : EntOk Try.prog (ents n) (impl_Settle_ent n) := by
  intro hs ar y hg h
  replace h : impl_Settle_D n ar = some y := h
  unfold impl_Settle_D at h
  replace h := ocons_some h
  obtain ⟨a0, r0, rfl, h⟩ := h
  replace h := ocons_some h
  obtain ⟨a1, r1, rfl, h⟩ := h
  replace h := onil_some h
  obtain ⟨rfl, h⟩ := h
  obtain ⟨list0, qh0, h⟩ := obind_some h
  obtain ⟨coins1, qh1, h⟩ := obind_some h
  rw [argV_eq ok qh0, argV_eq ok qh1]
  exact call_of (phiE_nat _ _) hs ok mixed Try.func10 (c := impl_Settle_code) (by kernel_rfl) (impl_Settle_lo n) (by kernel_rfl) (by kernel_rfl) (by kernel_rfl) impl_Settle_de ((impl_Settle_tie n list0 coins1).trans h)
noncomputable def laws_FnKept_code : Code := match Try.f3.body with | some c => c | none => .skip
def laws_FnKept_6_sv : List Sv := [.one (.arr 5), .one (.ptr 24 0 0), .one (.own 3000000 75 false), .one (.int .i64), .one (.int .i64)]
def laws_FnKept_6_so : List So := [.var [.int .i64, .own 3000001 30 false], .arr 30 false, .arr 75 false]
def laws_FnKept_6_emb (c : List Int × Int × List (List Int) × List SYardOp) (x : Int × Int) : EVs T laws_FnKept_6_sv × EOs T laws_FnKept_6_so := ((c.1, (), (), x.1, x.2, ()), ((c.2.1, (), ()), c.2.2.1, c.2.2.2, ()))
def laws_FnKept_6_prj (y : EVs T laws_FnKept_6_sv × EOs T laws_FnKept_6_so) : (List Int × Int × List (List Int) × List SYardOp) × (Int × Int) := ((y.1.1, y.2.1.1, y.2.2.1, y.2.2.2.1), (y.1.2.2.2.1, y.1.2.2.2.2.1))
def laws_FnKept_6_b (n : Nat) {R : Type} (K : Ex → Sm.St T → Option R) (c : List Int × Int × List (List Int) × List SYardOp) (x : Int × Int) (J : (Int × Int) → Option R) : Option R :=
  laws_FnKept_L6 n (fun (y1 : Int) => K (.exit 0) (stOf (T := T) [0, 3, 4, 5] [24, 3000001, 3000000] [.one (.arr 5), .one (.ptr 24 0 0), .one (.own 3000000 75 false), .one (.int .i64)] [.var [.int .i64, .own 3000001 30 false], .arr 30 false, .arr 75 false] (c.1, (), (), y1, ()) ((c.2.1, (), ()), c.2.2.1, c.2.2.2, ()))) (fun z0 z1 => J (z0, z1)) c.1 x.1 x.2 c.2.1 c.2.2.1 c.2.2.2
def laws_FnKept_6_sp (n : Nat) : LSpec T := mkSpec T ⟨[((.reg 4), 3000000, 75), ((.cell 24 1), 3000001, 30)], [0, 3, 4, 5, 6], [24, 3000001, 3000000]⟩ laws_FnKept_6_sv laws_FnKept_6_so (List Int × Int × List (List Int) × List SYardOp) (Int × Int) laws_FnKept_6_emb laws_FnKept_6_prj (laws_FnKept_6_b n)
noncomputable def laws_FnKept_6_c : Code := ((loopCodes laws_FnKept_code)[0]?).getD .skip
def laws_FnKept_9_sv : List Sv := [.one (.arr 5), .one (.ptr 24 0 0), .one (.own 3000000 75 false), .one (.int .i64), .one (.int .i64), .one (.int .i64)]
def laws_FnKept_9_so : List So := [.var [.int .i64, .own 3000001 30 false], .arr 30 false, .arr 75 false]
def laws_FnKept_9_emb (c : List Int × Int × Int × List (List Int) × List SYardOp) (x : Int × Int) : EVs T laws_FnKept_9_sv × EOs T laws_FnKept_9_so := ((c.1, (), (), x.1, c.2.1, x.2, ()), ((c.2.2.1, (), ()), c.2.2.2.1, c.2.2.2.2, ()))
def laws_FnKept_9_prj (y : EVs T laws_FnKept_9_sv × EOs T laws_FnKept_9_so) : (List Int × Int × Int × List (List Int) × List SYardOp) × (Int × Int) := ((y.1.1, y.1.2.2.2.2.1, y.2.1.1, y.2.2.1, y.2.2.2.1), (y.1.2.2.2.1, y.1.2.2.2.2.2.1))
def laws_FnKept_9_b (n : Nat) {R : Type} (K : Ex → Sm.St T → Option R) (c : List Int × Int × Int × List (List Int) × List SYardOp) (x : Int × Int) (J : (Int × Int) → Option R) : Option R :=
  laws_FnKept_L9 n (fun (y1 : Int) => K (.exit 2) (stOf (T := T) [0, 3, 4, 5, 6] [24, 3000001, 3000000] [.one (.arr 5), .one (.ptr 24 0 0), .one (.own 3000000 75 false), .one (.int .i64), .one (.int .i64)] [.var [.int .i64, .own 3000001 30 false], .arr 30 false, .arr 75 false] (c.1, (), (), y1, c.2.1, ()) ((c.2.2.1, (), ()), c.2.2.2.1, c.2.2.2.2, ()))) (fun z0 z1 => J (z0, z1)) c.1 x.1 c.2.1 x.2 c.2.2.1 c.2.2.2.1 c.2.2.2.2
def laws_FnKept_9_sp (n : Nat) : LSpec T := mkSpec T ⟨[((.reg 4), 3000000, 75), ((.cell 24 1), 3000001, 30)], [0, 3, 4, 5, 6, 7], [24, 3000001, 3000000]⟩ laws_FnKept_9_sv laws_FnKept_9_so (List Int × Int × Int × List (List Int) × List SYardOp) (Int × Int) laws_FnKept_9_emb laws_FnKept_9_prj (laws_FnKept_9_b n)
noncomputable def laws_FnKept_9_c : Code := ((loopCodes laws_FnKept_code)[1]?).getD .skip
def laws_FnKept_16_sv : List Sv := [.one (.ptr 24 0 0), .one (.own 3000000 75 false), .one (.int .i64), .one (.own 3000002 3 false), .one (.own 3000003 37 false), .one (.own 3000004 3 false), .one (.int .i64), .one (.int .i64)]
def laws_FnKept_16_so : List So := [.var [.int .i64, .own 3000001 30 false], .arr 30 false, .arr 75 false, .arr 3 false, .arr 37 false, .arr 3 false]
def laws_FnKept_16_emb (c : Int × Int × List (List Int) × List SYardOp × List Int × List SRadio × List Int) (x : Int × Int) : EVs T laws_FnKept_16_sv × EOs T laws_FnKept_16_so := (((), (), c.1, (), (), (), x.1, x.2, ()), ((c.2.1, (), ()), c.2.2.1, c.2.2.2.1, c.2.2.2.2.1, c.2.2.2.2.2.1, c.2.2.2.2.2.2, ()))
def laws_FnKept_16_prj (y : EVs T laws_FnKept_16_sv × EOs T laws_FnKept_16_so) : (Int × Int × List (List Int) × List SYardOp × List Int × List SRadio × List Int) × (Int × Int) := ((y.1.2.2.1, y.2.1.1, y.2.2.1, y.2.2.2.1, y.2.2.2.2.1, y.2.2.2.2.2.1, y.2.2.2.2.2.2.1), (y.1.2.2.2.2.2.2.1, y.1.2.2.2.2.2.2.2.1))
def laws_FnKept_16_b (n : Nat) {R : Type} (K : Ex → Sm.St T → Option R) (c : Int × Int × List (List Int) × List SYardOp × List Int × List SRadio × List Int) (x : Int × Int) (J : (Int × Int) → Option R) : Option R :=
  laws_FnKept_L16 n (fun (y1 : Int) => K (.exit 4) (stOf (T := T) [3, 4, 5, 9, 11, 12, 13] [24, 3000001, 3000000, 3000002, 3000003, 3000004] [.one (.ptr 24 0 0), .one (.own 3000000 75 false), .one (.int .i64), .one (.own 3000002 3 false), .one (.own 3000003 37 false), .one (.own 3000004 3 false), .one (.int .i64)] [.var [.int .i64, .own 3000001 30 false], .arr 30 false, .arr 75 false, .arr 3 false, .arr 37 false, .arr 3 false] ((), (), c.1, (), (), (), y1, ()) ((c.2.1, (), ()), c.2.2.1, c.2.2.2.1, c.2.2.2.2.1, c.2.2.2.2.2.1, c.2.2.2.2.2.2, ()))) (fun z0 z1 => J (z0, z1)) c.1 x.1 x.2 c.2.1 c.2.2.1 c.2.2.2.1 c.2.2.2.2.1 c.2.2.2.2.2.1 c.2.2.2.2.2.2
def laws_FnKept_16_sp (n : Nat) : LSpec T := mkSpec T ⟨[((.reg 4), 3000000, 75), ((.reg 9), 3000002, 3), ((.reg 11), 3000003, 37), ((.reg 12), 3000004, 3), ((.cell 24 1), 3000001, 30)], [3, 4, 5, 9, 11, 12, 13, 14], [24, 3000001, 3000000, 3000002, 3000003, 3000004]⟩ laws_FnKept_16_sv laws_FnKept_16_so (Int × Int × List (List Int) × List SYardOp × List Int × List SRadio × List Int) (Int × Int) laws_FnKept_16_emb laws_FnKept_16_prj (laws_FnKept_16_b n)
noncomputable def laws_FnKept_16_c : Code := ((loopCodes laws_FnKept_code)[2]?).getD .skip
def laws_FnKept_21_sv : List Sv := [.one (.ptr 24 0 0), .one (.own 3000000 75 false), .one (.int .i64), .one (.own 3000002 3 false), .one (.own 3000003 37 false), .one (.int .i64), .one (.own 3000005 37 false), .one (.int .i64)]
def laws_FnKept_21_so : List So := [.var [.int .i64, .own 3000001 30 false], .arr 30 false, .arr 75 false, .arr 3 false, .arr 37 false, .arr 37 false]
def laws_FnKept_21_emb (c : Int × Int × Int × List SYardOp × List Int × List SRadio × List SRadio) (x : Int × List (List Int)) : EVs T laws_FnKept_21_sv × EOs T laws_FnKept_21_so := (((), (), c.1, (), (), c.2.1, (), x.1, ()), ((c.2.2.1, (), ()), x.2, c.2.2.2.1, c.2.2.2.2.1, c.2.2.2.2.2.1, c.2.2.2.2.2.2, ()))
def laws_FnKept_21_prj (y : EVs T laws_FnKept_21_sv × EOs T laws_FnKept_21_so) : (Int × Int × Int × List SYardOp × List Int × List SRadio × List SRadio) × (Int × List (List Int)) := ((y.1.2.2.1, y.1.2.2.2.2.2.1, y.2.1.1, y.2.2.2.1, y.2.2.2.2.1, y.2.2.2.2.2.1, y.2.2.2.2.2.2.1), (y.1.2.2.2.2.2.2.2.1, y.2.2.1))
def laws_FnKept_21_b (n : Nat) {R : Type} (K : Ex → Sm.St T → Option R) (c : Int × Int × Int × List SYardOp × List Int × List SRadio × List SRadio) (x : Int × List (List Int)) (J : (Int × List (List Int)) → Option R) : Option R :=
  laws_FnKept_L21 n (fun (y3 : List (List Int)) => K (.exit 6) (stOf (T := T) [3, 4, 5, 9, 11, 13, 15] [24, 3000001, 3000000, 3000002, 3000003, 3000005] [.one (.ptr 24 0 0), .one (.own 3000000 75 false), .one (.int .i64), .one (.own 3000002 3 false), .one (.own 3000003 37 false), .one (.int .i64), .one (.own 3000005 37 false)] [.var [.int .i64, .own 3000001 30 false], .arr 30 false, .arr 75 false, .arr 3 false, .arr 37 false, .arr 37 false] ((), (), c.1, (), (), c.2.1, (), ()) ((c.2.2.1, (), ()), y3, c.2.2.2.1, c.2.2.2.2.1, c.2.2.2.2.2.1, c.2.2.2.2.2.2, ()))) (fun z0 z1 => J (z0, z1)) c.1 c.2.1 x.1 c.2.2.1 x.2 c.2.2.2.1 c.2.2.2.2.1 c.2.2.2.2.2.1 c.2.2.2.2.2.2
def laws_FnKept_21_sp (n : Nat) : LSpec T := mkSpec T ⟨[((.reg 4), 3000000, 75), ((.reg 9), 3000002, 3), ((.reg 11), 3000003, 37), ((.reg 15), 3000005, 37), ((.cell 24 1), 3000001, 30)], [3, 4, 5, 9, 11, 13, 15, 18], [24, 3000001, 3000000, 3000002, 3000003, 3000005]⟩ laws_FnKept_21_sv laws_FnKept_21_so (Int × Int × Int × List SYardOp × List Int × List SRadio × List SRadio) (Int × List (List Int)) laws_FnKept_21_emb laws_FnKept_21_prj (laws_FnKept_21_b n)
noncomputable def laws_FnKept_21_c : Code := ((loopCodes laws_FnKept_code)[3]?).getD .skip
def laws_FnKept_24_sv : List Sv := [.one (.ptr 24 0 0), .one (.own 3000000 75 false), .one (.int .i64), .one (.own 3000002 3 false), .one (.own 3000003 37 false), .one (.int .i64), .one (.own 3000005 37 false), .one (.int .i64), .one (.int .i64)]
def laws_FnKept_24_so : List So := [.var [.int .i64, .own 3000001 30 false], .arr 30 false, .arr 75 false, .arr 3 false, .arr 37 false, .arr 37 false]
def laws_FnKept_24_emb (c : Int × Int × Int × Int × List SYardOp × List Int × List SRadio × List SRadio) (x : Int × List (List Int)) : EVs T laws_FnKept_24_sv × EOs T laws_FnKept_24_so := (((), (), c.1, (), (), c.2.1, (), c.2.2.1, x.1, ()), ((c.2.2.2.1, (), ()), x.2, c.2.2.2.2.1, c.2.2.2.2.2.1, c.2.2.2.2.2.2.1, c.2.2.2.2.2.2.2, ()))
def laws_FnKept_24_prj (y : EVs T laws_FnKept_24_sv × EOs T laws_FnKept_24_so) : (Int × Int × Int × Int × List SYardOp × List Int × List SRadio × List SRadio) × (Int × List (List Int)) := ((y.1.2.2.1, y.1.2.2.2.2.2.1, y.1.2.2.2.2.2.2.2.1, y.2.1.1, y.2.2.2.1, y.2.2.2.2.1, y.2.2.2.2.2.1, y.2.2.2.2.2.2.1), (y.1.2.2.2.2.2.2.2.2.1, y.2.2.1))
def laws_FnKept_24_b (n : Nat) {R : Type} (K : Ex → Sm.St T → Option R) (c : Int × Int × Int × Int × List SYardOp × List Int × List SRadio × List SRadio) (x : Int × List (List Int)) (J : (Int × List (List Int)) → Option R) : Option R :=
  laws_FnKept_L24 n (fun (y4 : List (List Int)) => K (.exit 8) (stOf (T := T) [3, 4, 5, 9, 11, 13, 15, 18] [24, 3000001, 3000000, 3000002, 3000003, 3000005] [.one (.ptr 24 0 0), .one (.own 3000000 75 false), .one (.int .i64), .one (.own 3000002 3 false), .one (.own 3000003 37 false), .one (.int .i64), .one (.own 3000005 37 false), .one (.int .i64)] [.var [.int .i64, .own 3000001 30 false], .arr 30 false, .arr 75 false, .arr 3 false, .arr 37 false, .arr 37 false] ((), (), c.1, (), (), c.2.1, (), c.2.2.1, ()) ((c.2.2.2.1, (), ()), y4, c.2.2.2.2.1, c.2.2.2.2.2.1, c.2.2.2.2.2.2.1, c.2.2.2.2.2.2.2, ()))) (fun z0 z1 => J (z0, z1)) c.1 c.2.1 c.2.2.1 x.1 c.2.2.2.1 x.2 c.2.2.2.2.1 c.2.2.2.2.2.1 c.2.2.2.2.2.2.1 c.2.2.2.2.2.2.2
def laws_FnKept_24_sp (n : Nat) : LSpec T := mkSpec T ⟨[((.reg 4), 3000000, 75), ((.reg 9), 3000002, 3), ((.reg 11), 3000003, 37), ((.reg 15), 3000005, 37), ((.cell 24 1), 3000001, 30)], [3, 4, 5, 9, 11, 13, 15, 18, 19], [24, 3000001, 3000000, 3000002, 3000003, 3000005]⟩ laws_FnKept_24_sv laws_FnKept_24_so (Int × Int × Int × Int × List SYardOp × List Int × List SRadio × List SRadio) (Int × List (List Int)) laws_FnKept_24_emb laws_FnKept_24_prj (laws_FnKept_24_b n)
noncomputable def laws_FnKept_24_c : Code := ((loopCodes laws_FnKept_code)[4]?).getD .skip
def laws_FnKept_29_sv : List Sv := [.one (.ptr 24 0 0), .one (.own 3000000 75 false), .one (.int .i64), .one (.own 3000002 3 false), .one (.own 3000003 37 false), .one (.int .i64), .one (.own 3000005 37 false), .one (.int .i64), .one (.int .i64), .one (.int .i64)]
def laws_FnKept_29_so : List So := [.var [.int .i64, .own 3000001 30 false], .arr 30 false, .arr 75 false, .arr 3 false, .arr 37 false, .arr 37 false]
def laws_FnKept_29_emb (c : Int × Int × Int × Int × List (List Int) × List SYardOp × List Int × List SRadio × List SRadio) (x : Int × Int) : EVs T laws_FnKept_29_sv × EOs T laws_FnKept_29_so := (((), (), c.1, (), (), c.2.1, (), x.1, c.2.2.1, x.2, ()), ((c.2.2.2.1, (), ()), c.2.2.2.2.1, c.2.2.2.2.2.1, c.2.2.2.2.2.2.1, c.2.2.2.2.2.2.2.1, c.2.2.2.2.2.2.2.2, ()))
def laws_FnKept_29_prj (y : EVs T laws_FnKept_29_sv × EOs T laws_FnKept_29_so) : (Int × Int × Int × Int × List (List Int) × List SYardOp × List Int × List SRadio × List SRadio) × (Int × Int) := ((y.1.2.2.1, y.1.2.2.2.2.2.1, y.1.2.2.2.2.2.2.2.2.1, y.2.1.1, y.2.2.1, y.2.2.2.1, y.2.2.2.2.1, y.2.2.2.2.2.1, y.2.2.2.2.2.2.1), (y.1.2.2.2.2.2.2.2.1, y.1.2.2.2.2.2.2.2.2.2.1))
def laws_FnKept_29_b (n : Nat) {R : Type} (K : Ex → Sm.St T → Option R) (c : Int × Int × Int × Int × List (List Int) × List SYardOp × List Int × List SRadio × List SRadio) (x : Int × Int) (J : (Int × Int) → Option R) : Option R :=
  laws_FnKept_L29 n (fun (y2 : Int) => K (.exit 10) (stOf (T := T) [4, 5, 9, 11, 13, 15, 20, 21] [3000000, 3000002, 3000003, 3000005] [.one (.own 3000000 75 false), .one (.int .i64), .one (.own 3000002 3 false), .one (.own 3000003 37 false), .one (.int .i64), .one (.own 3000005 37 false), .one (.int .i64), .one (.int .i64)] [.arr 75 false, .arr 3 false, .arr 37 false, .arr 37 false] ((), c.1, (), (), c.2.1, (), y2, c.2.2.1, ()) (c.2.2.2.2.2.1, c.2.2.2.2.2.2.1, c.2.2.2.2.2.2.2.1, c.2.2.2.2.2.2.2.2, ()))) (fun z0 z1 => J (z0, z1)) c.1 c.2.1 x.1 c.2.2.1 x.2 c.2.2.2.1 c.2.2.2.2.1 c.2.2.2.2.2.1 c.2.2.2.2.2.2.1 c.2.2.2.2.2.2.2.1 c.2.2.2.2.2.2.2.2
def laws_FnKept_29_sp (n : Nat) : LSpec T := mkSpec T ⟨[((.reg 4), 3000000, 75), ((.reg 9), 3000002, 3), ((.reg 11), 3000003, 37), ((.reg 15), 3000005, 37), ((.cell 24 1), 3000001, 30)], [3, 4, 5, 9, 11, 13, 15, 20, 21, 22], [24, 3000001, 3000000, 3000002, 3000003, 3000005]⟩ laws_FnKept_29_sv laws_FnKept_29_so (Int × Int × Int × Int × List (List Int) × List SYardOp × List Int × List SRadio × List SRadio) (Int × Int) laws_FnKept_29_emb laws_FnKept_29_prj (laws_FnKept_29_b n)
noncomputable def laws_FnKept_29_c : Code := ((loopCodes laws_FnKept_code)[5]?).getD .skip
def laws_FnKept_32_sv : List Sv := [.one (.ptr 24 0 0), .one (.own 3000000 75 false), .one (.int .i64), .one (.own 3000002 3 false), .one (.own 3000003 37 false), .one (.int .i64), .one (.own 3000005 37 false), .one (.int .i64), .one (.int .i64), .one (.int .i64), .one (.int .i64)]
def laws_FnKept_32_so : List So := [.var [.int .i64, .own 3000001 30 false], .arr 30 false, .arr 75 false, .arr 3 false, .arr 37 false, .arr 37 false]
def laws_FnKept_32_emb (c : Int × Int × Int × Int × Int × List (List Int) × List SYardOp × List Int × List SRadio × List SRadio) (x : Int × Int) : EVs T laws_FnKept_32_sv × EOs T laws_FnKept_32_so := (((), (), c.1, (), (), c.2.1, (), x.1, c.2.2.1, c.2.2.2.1, x.2, ()), ((c.2.2.2.2.1, (), ()), c.2.2.2.2.2.1, c.2.2.2.2.2.2.1, c.2.2.2.2.2.2.2.1, c.2.2.2.2.2.2.2.2.1, c.2.2.2.2.2.2.2.2.2, ()))
def laws_FnKept_32_prj (y : EVs T laws_FnKept_32_sv × EOs T laws_FnKept_32_so) : (Int × Int × Int × Int × Int × List (List Int) × List SYardOp × List Int × List SRadio × List SRadio) × (Int × Int) := ((y.1.2.2.1, y.1.2.2.2.2.2.1, y.1.2.2.2.2.2.2.2.2.1, y.1.2.2.2.2.2.2.2.2.2.1, y.2.1.1, y.2.2.1, y.2.2.2.1, y.2.2.2.2.1, y.2.2.2.2.2.1, y.2.2.2.2.2.2.1), (y.1.2.2.2.2.2.2.2.1, y.1.2.2.2.2.2.2.2.2.2.2.1))
def laws_FnKept_32_b (n : Nat) {R : Type} (K : Ex → Sm.St T → Option R) (c : Int × Int × Int × Int × Int × List (List Int) × List SYardOp × List Int × List SRadio × List SRadio) (x : Int × Int) (J : (Int × Int) → Option R) : Option R :=
  laws_FnKept_L32 n (fun (y2 : Int) => K (.exit 12) (stOf (T := T) [3, 4, 5, 9, 11, 13, 15, 20, 21, 22] [24, 3000001, 3000000, 3000002, 3000003, 3000005] [.one (.ptr 24 0 0), .one (.own 3000000 75 false), .one (.int .i64), .one (.own 3000002 3 false), .one (.own 3000003 37 false), .one (.int .i64), .one (.own 3000005 37 false), .one (.int .i64), .one (.int .i64), .one (.int .i64)] [.var [.int .i64, .own 3000001 30 false], .arr 30 false, .arr 75 false, .arr 3 false, .arr 37 false, .arr 37 false] ((), (), c.1, (), (), c.2.1, (), y2, c.2.2.1, c.2.2.2.1, ()) ((c.2.2.2.2.1, (), ()), c.2.2.2.2.2.1, c.2.2.2.2.2.2.1, c.2.2.2.2.2.2.2.1, c.2.2.2.2.2.2.2.2.1, c.2.2.2.2.2.2.2.2.2, ()))) (fun z0 z1 => J (z0, z1)) c.1 c.2.1 x.1 c.2.2.1 c.2.2.2.1 x.2 c.2.2.2.2.1 c.2.2.2.2.2.1 c.2.2.2.2.2.2.1 c.2.2.2.2.2.2.2.1 c.2.2.2.2.2.2.2.2.1 c.2.2.2.2.2.2.2.2.2
def laws_FnKept_32_sp (n : Nat) : LSpec T := mkSpec T ⟨[((.reg 4), 3000000, 75), ((.reg 9), 3000002, 3), ((.reg 11), 3000003, 37), ((.reg 15), 3000005, 37), ((.cell 24 1), 3000001, 30)], [3, 4, 5, 9, 11, 13, 15, 20, 21, 22, 23], [24, 3000001, 3000000, 3000002, 3000003, 3000005]⟩ laws_FnKept_32_sv laws_FnKept_32_so (Int × Int × Int × Int × Int × List (List Int) × List SYardOp × List Int × List SRadio × List SRadio) (Int × Int) laws_FnKept_32_emb laws_FnKept_32_prj (laws_FnKept_32_b n)
noncomputable def laws_FnKept_32_c : Code := ((loopCodes laws_FnKept_code)[6]?).getD .skip
def laws_FnKept_36_sv : List Sv := [.one (.own 3000000 75 false), .one (.int .i64), .one (.own 3000002 3 false), .one (.own 3000003 37 false), .one (.int .i64), .one (.own 3000005 37 false), .one (.int .i64), .one (.int .i64), .one (.int .i64)]
def laws_FnKept_36_so : List So := [.arr 75 false, .arr 3 false, .arr 37 false, .arr 37 false]
def laws_FnKept_36_emb (c : Int × Int × Int × List SYardOp × List Int × List SRadio × List SRadio) (x : Int × Int) : EVs T laws_FnKept_36_sv × EOs T laws_FnKept_36_so := (((), c.1, (), (), c.2.1, (), c.2.2.1, x.1, x.2, ()), (c.2.2.2.1, c.2.2.2.2.1, c.2.2.2.2.2.1, c.2.2.2.2.2.2, ()))
def laws_FnKept_36_prj (y : EVs T laws_FnKept_36_sv × EOs T laws_FnKept_36_so) : (Int × Int × Int × List SYardOp × List Int × List SRadio × List SRadio) × (Int × Int) := ((y.1.2.1, y.1.2.2.2.2.1, y.1.2.2.2.2.2.2.1, y.2.1, y.2.2.1, y.2.2.2.1, y.2.2.2.2.1), (y.1.2.2.2.2.2.2.2.1, y.1.2.2.2.2.2.2.2.2.1))
def laws_FnKept_36_b (n : Nat) {R : Type} (K : Ex → Sm.St T → Option R) (c : Int × Int × Int × List SYardOp × List Int × List SRadio × List SRadio) (x : Int × Int) (J : (Int × Int) → Option R) : Option R :=
  laws_FnKept_L36 n (fun (y3 : Int) => K (.exit 14) (stOf (T := T) [4, 5, 9, 11, 13, 15, 20, 21] [3000000, 3000002, 3000003, 3000005] [.one (.own 3000000 75 false), .one (.int .i64), .one (.own 3000002 3 false), .one (.own 3000003 37 false), .one (.int .i64), .one (.own 3000005 37 false), .one (.int .i64), .one (.int .i64)] [.arr 75 false, .arr 3 false, .arr 37 false, .arr 37 false] ((), c.1, (), (), c.2.1, (), c.2.2.1, y3, ()) (c.2.2.2.1, c.2.2.2.2.1, c.2.2.2.2.2.1, c.2.2.2.2.2.2, ()))) (fun z0 z1 => J (z0, z1)) c.1 c.2.1 c.2.2.1 x.1 x.2 c.2.2.2.1 c.2.2.2.2.1 c.2.2.2.2.2.1 c.2.2.2.2.2.2
def laws_FnKept_36_sp (n : Nat) : LSpec T := mkSpec T ⟨[((.reg 4), 3000000, 75), ((.reg 9), 3000002, 3), ((.reg 11), 3000003, 37), ((.reg 15), 3000005, 37)], [4, 5, 9, 11, 13, 15, 20, 21, 24], [3000000, 3000002, 3000003, 3000005]⟩ laws_FnKept_36_sv laws_FnKept_36_so (Int × Int × Int × List SYardOp × List Int × List SRadio × List SRadio) (Int × Int) laws_FnKept_36_emb laws_FnKept_36_prj (laws_FnKept_36_b n)
noncomputable def laws_FnKept_36_c : Code := ((loopCodes laws_FnKept_code)[7]?).getD .skip
def laws_FnKept_ann : Ann := fun id => bif Nat.beq id 3000006 then some ⟨[((.reg 4), 3000000, 75), ((.cell 24 1), 3000001, 30)], [0, 3, 4, 5], [24, 3000001, 3000000]⟩ else bif Nat.beq id 5000009 then some ⟨[((.reg 4), 3000000, 75), ((.cell 24 1), 3000001, 30)], [0, 3, 4, 5, 6], [24, 3000001, 3000000]⟩ else bif Nat.beq id 7000016 then some ⟨[((.reg 4), 3000000, 75), ((.reg 9), 3000002, 3), ((.reg 11), 3000003, 37), ((.reg 12), 3000004, 3), ((.cell 24 1), 3000001, 30)], [3, 4, 5, 9, 11, 12, 13], [24, 3000001, 3000000, 3000002, 3000003, 3000004]⟩ else bif Nat.beq id 9000021 then some ⟨[((.reg 4), 3000000, 75), ((.reg 9), 3000002, 3), ((.reg 11), 3000003, 37), ((.reg 15), 3000005, 37), ((.cell 24 1), 3000001, 30)], [3, 4, 5, 9, 11, 13, 15], [24, 3000001, 3000000, 3000002, 3000003, 3000005]⟩ else bif Nat.beq id 11000024 then some ⟨[((.reg 4), 3000000, 75), ((.reg 9), 3000002, 3), ((.reg 11), 3000003, 37), ((.reg 15), 3000005, 37), ((.cell 24 1), 3000001, 30)], [3, 4, 5, 9, 11, 13, 15, 18], [24, 3000001, 3000000, 3000002, 3000003, 3000005]⟩ else bif Nat.beq id 13000029 then some ⟨[((.reg 4), 3000000, 75), ((.reg 9), 3000002, 3), ((.reg 11), 3000003, 37), ((.reg 15), 3000005, 37)], [4, 5, 9, 11, 13, 15, 20, 21], [3000000, 3000002, 3000003, 3000005]⟩ else bif Nat.beq id 15000032 then some ⟨[((.reg 4), 3000000, 75), ((.reg 9), 3000002, 3), ((.reg 11), 3000003, 37), ((.reg 15), 3000005, 37), ((.cell 24 1), 3000001, 30)], [3, 4, 5, 9, 11, 13, 15, 20, 21, 22], [24, 3000001, 3000000, 3000002, 3000003, 3000005]⟩ else bif Nat.beq id 17000036 then some ⟨[((.reg 4), 3000000, 75), ((.reg 9), 3000002, 3), ((.reg 11), 3000003, 37), ((.reg 15), 3000005, 37)], [4, 5, 9, 11, 13, 15, 20, 21], [3000000, 3000002, 3000003, 3000005]⟩ else none
def laws_FnKept_Ls (n : Nat) : Nat → Option (LSpec T) := fun id => bif Nat.beq id 6 then some (laws_FnKept_6_sp n) else bif Nat.beq id 9 then some (laws_FnKept_9_sp n) else bif Nat.beq id 16 then some (laws_FnKept_16_sp n) else bif Nat.beq id 21 then some (laws_FnKept_21_sp n) else bif Nat.beq id 24 then some (laws_FnKept_24_sp n) else bif Nat.beq id 29 then some (laws_FnKept_29_sp n) else bif Nat.beq id 32 then some (laws_FnKept_32_sp n) else bif Nat.beq id 36 then some (laws_FnKept_36_sp n) else none
theorem laws_FnKept_6_le (n : Nat) : LoopEq (T := T) (Phi n 40) (laws_FnKept_Ls n) laws_FnKept_ann n laws_FnKept_6_c (laws_FnKept_6_sp n) := ⟨mkSpec_dec (fun y => rfl), fun c x => by kernel_rfl, fun K J c x => by kernel_rfl⟩
theorem laws_FnKept_9_le (n : Nat) : LoopEq (T := T) (Phi n 40) (laws_FnKept_Ls n) laws_FnKept_ann n laws_FnKept_9_c (laws_FnKept_9_sp n) := ⟨mkSpec_dec (fun y => rfl), fun c x => by kernel_rfl, fun K J c x => by kernel_rfl⟩
theorem laws_FnKept_16_le (n : Nat) : LoopEq (T := T) (Phi n 40) (laws_FnKept_Ls n) laws_FnKept_ann n laws_FnKept_16_c (laws_FnKept_16_sp n) := ⟨mkSpec_dec (fun y => rfl), fun c x => by kernel_rfl, fun K J c x => by kernel_rfl⟩
theorem laws_FnKept_21_le (n : Nat) : LoopEq (T := T) (Phi n 40) (laws_FnKept_Ls n) laws_FnKept_ann n laws_FnKept_21_c (laws_FnKept_21_sp n) := ⟨mkSpec_dec (fun y => rfl), fun c x => by kernel_rfl, fun K J c x => by kernel_rfl⟩
theorem laws_FnKept_24_le (n : Nat) : LoopEq (T := T) (Phi n 40) (laws_FnKept_Ls n) laws_FnKept_ann n laws_FnKept_24_c (laws_FnKept_24_sp n) := ⟨mkSpec_dec (fun y => rfl), fun c x => by kernel_rfl, fun K J c x => by kernel_rfl⟩
theorem laws_FnKept_29_le (n : Nat) : LoopEq (T := T) (Phi n 40) (laws_FnKept_Ls n) laws_FnKept_ann n laws_FnKept_29_c (laws_FnKept_29_sp n) := ⟨mkSpec_dec (fun y => rfl), fun c x => by kernel_rfl, fun K J c x => by kernel_rfl⟩
theorem laws_FnKept_32_le (n : Nat) : LoopEq (T := T) (Phi n 40) (laws_FnKept_Ls n) laws_FnKept_ann n laws_FnKept_32_c (laws_FnKept_32_sp n) := ⟨mkSpec_dec (fun y => rfl), fun c x => by kernel_rfl, fun K J c x => by kernel_rfl⟩
theorem laws_FnKept_36_le (n : Nat) : LoopEq (T := T) (Phi n 40) (laws_FnKept_Ls n) laws_FnKept_ann n laws_FnKept_36_c (laws_FnKept_36_sp n) := ⟨mkSpec_dec (fun y => rfl), fun c x => by kernel_rfl, fun K J c x => by kernel_rfl⟩
theorem laws_FnKept_tie (n : Nat) (code0 : List Int) : evF (T := T) (Phi n 40) (laws_FnKept_Ls n) laws_FnKept_ann n Try.f3 (sg 3) [vA T 22 code0] laws_FnKept_dec = laws_FnKept n code0 := by kernel_rfl
theorem laws_FnKept_lo (n : Nat) : LoopsOk (T := T) (Phi n 40) (laws_FnKept_Ls n) laws_FnKept_ann n laws_FnKept_code := loopsOk_all (cs := [laws_FnKept_6_c, laws_FnKept_9_c, laws_FnKept_16_c, laws_FnKept_21_c, laws_FnKept_24_c, laws_FnKept_29_c, laws_FnKept_32_c, laws_FnKept_36_c]) (by kernel_rfl) ⟨⟨_, by kernel_rfl, laws_FnKept_6_le n⟩, ⟨_, by kernel_rfl, laws_FnKept_9_le n⟩, ⟨_, by kernel_rfl, laws_FnKept_16_le n⟩, ⟨_, by kernel_rfl, laws_FnKept_21_le n⟩, ⟨_, by kernel_rfl, laws_FnKept_24_le n⟩, ⟨_, by kernel_rfl, laws_FnKept_29_le n⟩, ⟨_, by kernel_rfl, laws_FnKept_32_le n⟩, ⟨_, by kernel_rfl, laws_FnKept_36_le n⟩, trivial⟩
theorem laws_FnKept_ok (n : Nat) : EntOk Try.prog (ents n) (laws_FnKept_ent n) := by
  intro hs ar y hg h
  replace h : laws_FnKept_D n ar = some y := h
  unfold laws_FnKept_D at h
  replace h := ocons_some h
  obtain ⟨a0, r0, rfl, h⟩ := h
  replace h := onil_some h
  obtain ⟨rfl, h⟩ := h
  obtain ⟨code0, qh0, h⟩ := obind_some h
  rw [argV_eq ok qh0]
  exact call_of (phiE_nat _ _) hs ok mixed Try.func3 (c := laws_FnKept_code) (by kernel_rfl) (laws_FnKept_lo n) (by kernel_rfl) (by kernel_rfl) (by kernel_rfl) laws_FnKept_de ((laws_FnKept_tie n code0).trans h)
theorem entsOk (n : Nat) : EntsOk Try.prog (ents n) (ents n) := ⟨laws_big_ok n, spec_l1New_ok n, spec_l1Byte_ok n, spec_l1Below_ok n, spec_l18Draw_ok n, spec_l1PickInt_ok n, spec_l18DrawOp_ok n, spec_DrawYard_ok n, impl_own_int_ok n, impl_own_int_f34_ok n, impl_Yard_own_ok n, impl_in_ok n, impl_idRight_ok n, impl_YardOk_ok n, slices_Index_int_int_ok n, impl_FindBox_ok n, impl_Yard_lift_ok n, impl_DoYard_ok n, impl_RunYard_ok n, spec_l1Once_ok n, spec_l9DrawRadios_ok n, spec_l9DrawCoins_ok n, spec_DrawQuiet_ok n, impl_idOk_ok n, impl_slotOk_ok n, slices_Contains_int_int_ok n, impl_RadiosOk_ok n, impl_Settle_1_ok n, slices_IndexFunc_int_int__impl_Settle_1_ok n, slices_ContainsFunc_int_int__impl_Settle_1_ok n, impl_own_impl_Radio_ok n, impl_Clashes_1_ok n, slices_IndexFunc_int_int__impl_Clashes_1_ok n, slices_ContainsFunc_int_int__impl_Clashes_1_ok n, impl_Clashes_ok n, impl_Choose_1_ok n, slices_IndexFunc_int_int__impl_Choose_1_ok n, slices_ContainsFunc_int_int__impl_Choose_1_ok n, impl_Choose_ok n, impl_Settle_ok n, laws_FnKept_ok n, trivial⟩
theorem sem (n i : Nat) : SemOk (Phi n i) (CallOk Try.prog T) := phiE_ok (entsOk n) i
end Go.Sm.F3
