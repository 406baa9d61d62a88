import Derived.Test.YtakllmgiobpmgaaE4Tb
import Derived.Test.YtakllmgiobpmgaaEngE
import Derived.Test.YtakllmgiobpmgaaLay
import Derived.KernelRfl
/- Each function's code computes what the plain function computes. -/
set_option linter.unusedSimpArgs false
set_option linter.deprecated false
set_option linter.unusedSectionVars false
set_option linter.unusedVariables false
set_option maxRecDepth 100000
open Go Go.Proofs
noncomputable section
namespace Go.Sm.E4
/-- By recursors, and of a greater height than all of the functions: the kernel takes these apart first. -/
def obind {α β : Type} (o : Option α) (f : α → Option β) : Option β := let _ := @laws_FnTravel; Option.rec (motive := fun _ => Option β) none (fun a => f a) o
theorem obind_some {α β : Type} {o : Option α} {f : α → Option β} {y : β} (h : obind o f = some y) : ∃ a, o = some a ∧ f a = some y := by
  cases o with
  | none => cases h
  | some a => exact ⟨a, rfl, h⟩
def ocons {β : Type} (l : List (A T)) (f : A T → List (A T) → Option β) : Option β := let _ := @laws_FnTravel; List.rec (motive := fun _ => Option β) none (fun a r _ => f a r) l
theorem ocons_some {β : Type} {l : List (A T)} {f : A T → List (A T) → Option β} {y : β} (h : ocons l f = some y) : ∃ a r, l = a :: r ∧ f a r = some y := by
  cases l with
  | nil => cases h
  | cons a r => exact ⟨a, r, rfl, h⟩
def onil {β : Type} (l : List (A T)) (x : Option β) : Option β := let _ := @laws_FnTravel; List.rec (motive := fun _ => Option β) x (fun _ _ _ => none) l
theorem onil_some {β : Type} {l : List (A T)} {x : Option β} {y : β} (h : onil l x = some y) : l = [] ∧ x = some y := by
  cases l with
  | nil => exact ⟨rfl, h⟩
  | cons a r => cases h
def laws_big_dec (res : Res T) : Option Bool := match res.rets, res.outs with
  | [a0], [] => (retV (T := T) 4 a0).bind fun r0 => some (r0)
  | _, _ => none
def laws_big_enc (y : Bool) : Res T := ⟨[vR T 4 y], []⟩
theorem laws_big_de (res : Res T) (y : Bool) (h : laws_big_dec res = some y) : res = laws_big_enc y := by
  obtain ⟨rets, outs⟩ := res
  unfold laws_big_dec at h
  dsimp only at h
  split at h
  · obtain ⟨r0, h0, h⟩ := Option.bind_eq_some_iff.1 h
    cases h
    rw [retV_eq ok h0]
    rfl
  · cases h
def spec_l1New_dec (res : Res T) : Option Sl1Cur := match res.rets, res.outs with
  | [a0], [] => (retP (T := T) 184 a0).bind fun r0 => some (r0)
  | _, _ => none
def spec_l1New_enc (y : Sl1Cur) : Res T := ⟨[.ptr 184 y], []⟩
theorem spec_l1New_de (res : Res T) (y : Sl1Cur) (h : spec_l1New_dec res = some y) : res = spec_l1New_enc y := by
  obtain ⟨rets, outs⟩ := res
  unfold spec_l1New_dec at h
  dsimp only at h
  split at h
  · obtain ⟨r0, h0, h⟩ := Option.bind_eq_some_iff.1 h
    cases h
    rw [retP_eq h0]
    rfl
  · cases h
def spec_l1Byte_dec (res : Res T) : Option (Int × Sl1Cur) := match res.rets, res.outs with
  | [a0], [b0] => (retV (T := T) 3 a0).bind fun r0 => (outV (T := T) 184 b0).bind fun r1 => some (r0, r1)
  | _, _ => none
def spec_l1Byte_enc (y : Int × Sl1Cur) : Res T := ⟨[vR T 3 y.1], [.var 184 y.2]⟩
theorem spec_l1Byte_de (res : Res T) (y : Int × Sl1Cur) (h : spec_l1Byte_dec res = some y) : res = spec_l1Byte_enc y := by
  obtain ⟨rets, outs⟩ := res
  unfold spec_l1Byte_dec at h
  dsimp only at h
  split at h
  · obtain ⟨r0, h0, h⟩ := Option.bind_eq_some_iff.1 h
    obtain ⟨r1, h1, h⟩ := Option.bind_eq_some_iff.1 h
    cases h
    rw [retV_eq ok h0, outV_eq h1]
    rfl
  · cases h
def spec_l1Below_dec (res : Res T) : Option (Int × Sl1Cur) := match res.rets, res.outs with
  | [a0], [b0] => (retV (T := T) 3 a0).bind fun r0 => (outV (T := T) 184 b0).bind fun r1 => some (r0, r1)
  | _, _ => none
def spec_l1Below_enc (y : Int × Sl1Cur) : Res T := ⟨[vR T 3 y.1], [.var 184 y.2]⟩
theorem spec_l1Below_de (res : Res T) (y : Int × Sl1Cur) (h : spec_l1Below_dec res = some y) : res = spec_l1Below_enc y := by
  obtain ⟨rets, outs⟩ := res
  unfold spec_l1Below_dec at h
  dsimp only at h
  split at h
  · obtain ⟨r0, h0, h⟩ := Option.bind_eq_some_iff.1 h
    obtain ⟨r1, h1, h⟩ := Option.bind_eq_some_iff.1 h
    cases h
    rw [retV_eq ok h0, outV_eq h1]
    rfl
  · cases h
def spec_l22Draw_dec (res : Res T) : Option (List SLeg × Sl1Cur) := match res.rets, res.outs with
  | [a0], [b0] => (retV (T := T) 27 a0).bind fun r0 => (outV (T := T) 184 b0).bind fun r1 => some (r0, r1)
  | _, _ => none
def spec_l22Draw_enc (y : List SLeg × Sl1Cur) : Res T := ⟨[vR T 27 y.1], [.var 184 y.2]⟩
theorem spec_l22Draw_de (res : Res T) (y : List SLeg × Sl1Cur) (h : spec_l22Draw_dec res = some y) : res = spec_l22Draw_enc y := by
  obtain ⟨rets, outs⟩ := res
  unfold spec_l22Draw_dec at h
  dsimp only at h
  split at h
  · obtain ⟨r0, h0, h⟩ := Option.bind_eq_some_iff.1 h
    obtain ⟨r1, h1, h⟩ := Option.bind_eq_some_iff.1 h
    cases h
    rw [retV_eq ok h0, outV_eq h1]
    rfl
  · cases h
def spec_DrawLegs_dec (res : Res T) : Option (List SLeg) := match res.rets, res.outs with
  | [a0], [] => (retV (T := T) 27 a0).bind fun r0 => some (r0)
  | _, _ => none
def spec_DrawLegs_enc (y : List SLeg) : Res T := ⟨[vR T 27 y], []⟩
theorem spec_DrawLegs_de (res : Res T) (y : List SLeg) (h : spec_DrawLegs_dec res = some y) : res = spec_DrawLegs_enc y := by
  obtain ⟨rets, outs⟩ := res
  unfold spec_DrawLegs_dec at h
  dsimp only at h
  split at h
  · obtain ⟨r0, h0, h⟩ := Option.bind_eq_some_iff.1 h
    cases h
    rw [retV_eq ok h0]
    rfl
  · cases h
def laws_at_dec (res : Res T) : Option Int := match res.rets, res.outs with
  | [a0], [] => (retV (T := T) 3 a0).bind fun r0 => some (r0)
  | _, _ => none
def laws_at_enc (y : Int) : Res T := ⟨[vR T 3 y], []⟩
theorem laws_at_de (res : Res T) (y : Int) (h : laws_at_dec res = some y) : res = laws_at_enc y := by
  obtain ⟨rets, outs⟩ := res
  unfold laws_at_dec at h
  dsimp only at h
  split at h
  · obtain ⟨r0, h0, h⟩ := Option.bind_eq_some_iff.1 h
    cases h
    rw [retV_eq ok h0]
    rfl
  · cases h
def impl_in_dec (res : Res T) : Option Bool := match res.rets, res.outs with
  | [a0], [] => (retV (T := T) 4 a0).bind fun r0 => some (r0)
  | _, _ => none
def impl_in_enc (y : Bool) : Res T := ⟨[vR T 4 y], []⟩
theorem impl_in_de (res : Res T) (y : Bool) (h : impl_in_dec res = some y) : res = impl_in_enc y := by
  obtain ⟨rets, outs⟩ := res
  unfold impl_in_dec at h
  dsimp only at h
  split at h
  · obtain ⟨r0, h0, h⟩ := Option.bind_eq_some_iff.1 h
    cases h
    rw [retV_eq ok h0]
    rfl
  · cases h
def impl_linePort_dec (res : Res T) : Option Bool := match res.rets, res.outs with
  | [a0], [] => (retV (T := T) 4 a0).bind fun r0 => some (r0)
  | _, _ => none
def impl_linePort_enc (y : Bool) : Res T := ⟨[vR T 4 y], []⟩
theorem impl_linePort_de (res : Res T) (y : Bool) (h : impl_linePort_dec res = some y) : res = impl_linePort_enc y := by
  obtain ⟨rets, outs⟩ := res
  unfold impl_linePort_dec at h
  dsimp only at h
  split at h
  · obtain ⟨r0, h0, h⟩ := Option.bind_eq_some_iff.1 h
    cases h
    rw [retV_eq ok h0]
    rfl
  · cases h
def impl_minuteOk_dec (res : Res T) : Option Bool := match res.rets, res.outs with
  | [a0], [] => (retV (T := T) 4 a0).bind fun r0 => some (r0)
  | _, _ => none
def impl_minuteOk_enc (y : Bool) : Res T := ⟨[vR T 4 y], []⟩
theorem impl_minuteOk_de (res : Res T) (y : Bool) (h : impl_minuteOk_dec res = some y) : res = impl_minuteOk_enc y := by
  obtain ⟨rets, outs⟩ := res
  unfold impl_minuteOk_dec at h
  dsimp only at h
  split at h
  · obtain ⟨r0, h0, h⟩ := Option.bind_eq_some_iff.1 h
    cases h
    rw [retV_eq ok h0]
    rfl
  · cases h
def impl_LegsOk_dec (res : Res T) : Option Bool := match res.rets, res.outs with
  | [a0], [] => (retV (T := T) 4 a0).bind fun r0 => some (r0)
  | _, _ => none
def impl_LegsOk_enc (y : Bool) : Res T := ⟨[vR T 4 y], []⟩
theorem impl_LegsOk_de (res : Res T) (y : Bool) (h : impl_LegsOk_dec res = some y) : res = impl_LegsOk_enc y := by
  obtain ⟨rets, outs⟩ := res
  unfold impl_LegsOk_dec at h
  dsimp only at h
  split at h
  · obtain ⟨r0, h0, h⟩ := Option.bind_eq_some_iff.1 h
    cases h
    rw [retV_eq ok h0]
    rfl
  · cases h
def impl_lineRight_dec (res : Res T) : Option Bool := match res.rets, res.outs with
  | [a0], [] => (retV (T := T) 4 a0).bind fun r0 => some (r0)
  | _, _ => none
def impl_lineRight_enc (y : Bool) : Res T := ⟨[vR T 4 y], []⟩
theorem impl_lineRight_de (res : Res T) (y : Bool) (h : impl_lineRight_dec res = some y) : res = impl_lineRight_enc y := by
  obtain ⟨rets, outs⟩ := res
  unfold impl_lineRight_dec at h
  dsimp only at h
  split at h
  · obtain ⟨r0, h0, h⟩ := Option.bind_eq_some_iff.1 h
    cases h
    rw [retV_eq ok h0]
    rfl
  · cases h
def cmp_isNaN_int_dec (res : Res T) : Option Bool := match res.rets, res.outs with
  | [a0], [] => (retV (T := T) 4 a0).bind fun r0 => some (r0)
  | _, _ => none
def cmp_isNaN_int_enc (y : Bool) : Res T := ⟨[vR T 4 y], []⟩
theorem cmp_isNaN_int_de (res : Res T) (y : Bool) (h : cmp_isNaN_int_dec res = some y) : res = cmp_isNaN_int_enc y := by
  obtain ⟨rets, outs⟩ := res
  unfold cmp_isNaN_int_dec at h
  dsimp only at h
  split at h
  · obtain ⟨r0, h0, h⟩ := Option.bind_eq_some_iff.1 h
    cases h
    rw [retV_eq ok h0]
    rfl
  · cases h
def cmp_Compare_int_dec (res : Res T) : Option Int := match res.rets, res.outs with
  | [a0], [] => (retV (T := T) 3 a0).bind fun r0 => some (r0)
  | _, _ => none
def cmp_Compare_int_enc (y : Int) : Res T := ⟨[vR T 3 y], []⟩
theorem cmp_Compare_int_de (res : Res T) (y : Int) (h : cmp_Compare_int_dec res = some y) : res = cmp_Compare_int_enc y := by
  obtain ⟨rets, outs⟩ := res
  unfold cmp_Compare_int_dec at h
  dsimp only at h
  split at h
  · obtain ⟨r0, h0, h⟩ := Option.bind_eq_some_iff.1 h
    cases h
    rw [retV_eq ok h0]
    rfl
  · cases h
def impl_Earliest_1_dec (res : Res T) : Option Int := match res.rets, res.outs with
  | [a0], [] => (retV (T := T) 3 a0).bind fun r0 => some (r0)
  | _, _ => none
def impl_Earliest_1_enc (y : Int) : Res T := ⟨[vR T 3 y], []⟩
theorem impl_Earliest_1_de (res : Res T) (y : Int) (h : impl_Earliest_1_dec res = some y) : res = impl_Earliest_1_enc y := by
  obtain ⟨rets, outs⟩ := res
  unfold impl_Earliest_1_dec at h
  dsimp only at h
  split at h
  · obtain ⟨r0, h0, h⟩ := Option.bind_eq_some_iff.1 h
    cases h
    rw [retV_eq ok h0]
    rfl
  · cases h
def slices_SortFunc_int_int__impl_Earliest_1_dec (res : Res T) : Option (List Int) := match res.rets, res.outs with
  | [], [b0] => (outS (T := T) 3 b0).bind fun r0 => some (r0)
  | _, _ => none
def slices_SortFunc_int_int__impl_Earliest_1_enc (y : List Int) : Res T := ⟨[], [.sl 3 y]⟩
theorem slices_SortFunc_int_int__impl_Earliest_1_de (res : Res T) (y : List Int) (h : slices_SortFunc_int_int__impl_Earliest_1_dec res = some y) : res = slices_SortFunc_int_int__impl_Earliest_1_enc y := by
  obtain ⟨rets, outs⟩ := res
  unfold slices_SortFunc_int_int__impl_Earliest_1_dec at h
  dsimp only at h
  split at h
  · obtain ⟨r0, h0, h⟩ := Option.bind_eq_some_iff.1 h
    cases h
    rw [outS_eq h0]
    rfl
  · cases h
def impl_changes_dec (res : Res T) : Option Bool := match res.rets, res.outs with
  | [a0], [] => (retV (T := T) 4 a0).bind fun r0 => some (r0)
  | _, _ => none
def impl_changes_enc (y : Bool) : Res T := ⟨[vR T 4 y], []⟩
theorem impl_changes_de (res : Res T) (y : Bool) (h : impl_changes_dec res = some y) : res = impl_changes_enc y := by
  obtain ⟨rets, outs⟩ := res
  unfold impl_changes_dec at h
  dsimp only at h
  split at h
  · obtain ⟨r0, h0, h⟩ := Option.bind_eq_some_iff.1 h
    cases h
    rw [retV_eq ok h0]
    rfl
  · cases h
def impl_Earliest_dec (res : Res T) : Option (List Int × Bool) := match res.rets, res.outs with
  | [a0, a1], [] => (retV (T := T) 24 a0).bind fun r0 => (retV (T := T) 4 a1).bind fun r1 => some (r0, r1)
  | _, _ => none
def impl_Earliest_enc (y : List Int × Bool) : Res T := ⟨[vR T 24 y.1, vR T 4 y.2], []⟩
theorem impl_Earliest_de (res : Res T) (y : List Int × Bool) (h : impl_Earliest_dec res = some y) : res = impl_Earliest_enc y := by
  obtain ⟨rets, outs⟩ := res
  unfold impl_Earliest_dec at h
  dsimp only at h
  split at h
  · obtain ⟨r0, h0, h⟩ := Option.bind_eq_some_iff.1 h
    obtain ⟨r1, h1, h⟩ := Option.bind_eq_some_iff.1 h
    cases h
    rw [retV_eq ok h0, retV_eq ok h1]
    rfl
  · cases h
def impl_Travel_1_dec (res : Res T) : Option Bool := match res.rets, res.outs with
  | [a0], [] => (retV (T := T) 4 a0).bind fun r0 => some (r0)
  | _, _ => none
def impl_Travel_1_enc (y : Bool) : Res T := ⟨[vR T 4 y], []⟩
theorem impl_Travel_1_de (res : Res T) (y : Bool) (h : impl_Travel_1_dec res = some y) : res = impl_Travel_1_enc y := by
  obtain ⟨rets, outs⟩ := res
  unfold impl_Travel_1_dec at h
  dsimp only at h
  split at h
  · obtain ⟨r0, h0, h⟩ := Option.bind_eq_some_iff.1 h
    cases h
    rw [retV_eq ok h0]
    rfl
  · cases h
def impl_own_int_dec (res : Res T) : Option (List Int) := match res.rets, res.outs with
  | [a0], [] => (retV (T := T) 24 a0).bind fun r0 => some (r0)
  | _, _ => none
def impl_own_int_enc (y : List Int) : Res T := ⟨[vR T 24 y], []⟩
theorem impl_own_int_de (res : Res T) (y : List Int) (h : impl_own_int_dec res = some y) : res = impl_own_int_enc y := by
  obtain ⟨rets, outs⟩ := res
  unfold impl_own_int_dec at h
  dsimp only at h
  split at h
  · obtain ⟨r0, h0, h⟩ := Option.bind_eq_some_iff.1 h
    cases h
    rw [retV_eq ok h0]
    rfl
  · cases h
def impl_Travel_dec (res : Res T) : Option (List Int × Bool) := match res.rets, res.outs with
  | [a0, a1], [] => (retV (T := T) 24 a0).bind fun r0 => (retV (T := T) 4 a1).bind fun r1 => some (r0, r1)
  | _, _ => none
def impl_Travel_enc (y : List Int × Bool) : Res T := ⟨[vR T 24 y.1, vR T 4 y.2], []⟩
theorem impl_Travel_de (res : Res T) (y : List Int × Bool) (h : impl_Travel_dec res = some y) : res = impl_Travel_enc y := by
  obtain ⟨rets, outs⟩ := res
  unfold impl_Travel_dec at h
  dsimp only at h
  split at h
  · obtain ⟨r0, h0, h⟩ := Option.bind_eq_some_iff.1 h
    obtain ⟨r1, h1, h⟩ := Option.bind_eq_some_iff.1 h
    cases h
    rw [retV_eq ok h0, retV_eq ok h1]
    rfl
  · cases h
def laws_FnTravel_dec (res : Res T) : Option Bool := match res.rets, res.outs with
  | [a0], [] => (retV (T := T) 4 a0).bind fun r0 => some (r0)
  | _, _ => none
def laws_FnTravel_enc (y : Bool) : Res T := ⟨[vR T 4 y], []⟩
theorem laws_FnTravel_de (res : Res T) (y : Bool) (h : laws_FnTravel_dec res = some y) : res = laws_FnTravel_enc y := by
  obtain ⟨rets, outs⟩ := res
  unfold laws_FnTravel_dec at h
  dsimp only at h
  split at h
  · obtain ⟨r0, h0, h⟩ := Option.bind_eq_some_iff.1 h
    cases h
    rw [retV_eq ok h0]
    rfl
  · cases h
def laws_big_D (n : Nat) (r0 : List (A T)) : Option Bool := ocons r0 fun a0 r1 => onil r1 (obind (argV (T := T) 34 a0) fun code0 => laws_big n code0)
def laws_big_ent (n : Nat) : Ent T := ⟨21, 0, [], Bool, laws_big_D n, laws_big_enc⟩
def spec_l1New_D (n : Nat) (r0 : List (A T)) : Option Sl1Cur := ocons r0 fun a0 r1 => onil r1 (obind (argV (T := T) 34 a0) fun code0 => spec_l1New n code0)
def spec_l1New_ent (n : Nat) : Ent T := ⟨82, 1, [], Sl1Cur, spec_l1New_D n, spec_l1New_enc⟩
def spec_l1Byte_D (n : Nat) (r0 : List (A T)) : Option (Int × Sl1Cur) := ocons r0 fun a0 r1 => onil r1 (obind (argP (T := T) 184 a0) fun c0 => spec_l1Byte n c0)
def spec_l1Byte_ent (n : Nat) : Ent T := ⟨188, 2, [], Int × Sl1Cur, spec_l1Byte_D n, spec_l1Byte_enc⟩
def spec_l1Below_D (n : Nat) (r0 : List (A T)) : Option (Int × Sl1Cur) := ocons r0 fun a0 r1 => ocons r1 fun a1 r2 => onil r2 (obind (argP (T := T) 184 a0) fun c0 => obind (argV (T := T) 3 a1) fun n1 => spec_l1Below n c0 n1)
def spec_l1Below_ent (n : Nat) : Ent T := ⟨132, 3, [], Int × Sl1Cur, spec_l1Below_D n, spec_l1Below_enc⟩
def spec_l22Draw_D (n : Nat) (r0 : List (A T)) : Option (List SLeg × Sl1Cur) := ocons r0 fun a0 r1 => onil r1 (obind (argP (T := T) 184 a0) fun c0 => spec_l22Draw n c0)
def spec_l22Draw_ent (n : Nat) : Ent T := ⟨81, 4, [], List SLeg × Sl1Cur, spec_l22Draw_D n, spec_l22Draw_enc⟩
def spec_DrawLegs_D (n : Nat) (r0 : List (A T)) : Option (List SLeg) := ocons r0 fun a0 r1 => onil r1 (obind (argV (T := T) 34 a0) fun code0 => spec_DrawLegs n code0)
def spec_DrawLegs_ent (n : Nat) : Ent T := ⟨22, 5, [], List SLeg, spec_DrawLegs_D n, spec_DrawLegs_enc⟩
def laws_at_D (n : Nat) (r0 : List (A T)) : Option Int := ocons r0 fun a0 r1 => ocons r1 fun a1 r2 => onil r2 (obind (argV (T := T) 34 a0) fun code0 => obind (argV (T := T) 3 a1) fun i1 => laws_at n code0 i1)
def laws_at_ent (n : Nat) : Ent T := ⟨23, 6, [], Int, laws_at_D n, laws_at_enc⟩
def impl_in_D (n : Nat) (r0 : List (A T)) : Option Bool := ocons r0 fun a0 r1 => ocons r1 fun a1 r2 => ocons r2 fun a2 r3 => onil r3 (obind (argV (T := T) 3 a0) fun n0 => obind (argV (T := T) 3 a1) fun least1 => obind (argV (T := T) 3 a2) fun most2 => impl_in n n0 least1 most2)
def impl_in_ent (n : Nat) : Ent T := ⟨87, 7, [], Bool, impl_in_D n, impl_in_enc⟩
def impl_linePort_D (n : Nat) (r0 : List (A T)) : Option Bool := ocons r0 fun a0 r1 => onil r1 (obind (argV (T := T) 3 a0) fun n0 => impl_linePort n n0)
def impl_linePort_ent (n : Nat) : Ent T := ⟨76, 8, [], Bool, impl_linePort_D n, impl_linePort_enc⟩
def impl_minuteOk_D (n : Nat) (r0 : List (A T)) : Option Bool := ocons r0 fun a0 r1 => onil r1 (obind (argV (T := T) 3 a0) fun n0 => impl_minuteOk n n0)
def impl_minuteOk_ent (n : Nat) : Ent T := ⟨88, 9, [], Bool, impl_minuteOk_D n, impl_minuteOk_enc⟩
def impl_LegsOk_D (n : Nat) (r0 : List (A T)) : Option Bool := ocons r0 fun a0 r1 => onil r1 (obind (argV (T := T) 27 a0) fun legs0 => impl_LegsOk n legs0)
def impl_LegsOk_ent (n : Nat) : Ent T := ⟨25, 10, [], Bool, impl_LegsOk_D n, impl_LegsOk_enc⟩
def impl_lineRight_D (n : Nat) (r0 : List (A T)) : Option Bool := ocons r0 fun a0 r1 => ocons r1 fun a1 r2 => ocons r2 fun a2 r3 => ocons r3 fun a3 r4 => onil r4 (obind (argV (T := T) 27 a0) fun legs0 => obind (argV (T := T) 3 a1) fun from1 => obind (argV (T := T) 3 a2) fun at2 => obind (argV (T := T) 3 a3) fun change3 => impl_lineRight n legs0 from1 at2 change3)
def impl_lineRight_ent (n : Nat) : Ent T := ⟨83, 11, [], Bool, impl_lineRight_D n, impl_lineRight_enc⟩
def cmp_isNaN_int_D (n : Nat) (r0 : List (A T)) : Option Bool := ocons r0 fun a0 r1 => onil r1 (obind (argV (T := T) 3 a0) fun x0 => cmp_isNaN_int n x0)
def cmp_isNaN_int_ent (n : Nat) : Ent T := ⟨168, 12, [], Bool, cmp_isNaN_int_D n, cmp_isNaN_int_enc⟩
def cmp_Compare_int_D (n : Nat) (r0 : List (A T)) : Option Int := ocons r0 fun a0 r1 => ocons r1 fun a1 r2 => onil r2 (obind (argV (T := T) 3 a0) fun x0 => obind (argV (T := T) 3 a1) fun y1 => cmp_Compare_int n x0 y1)
def cmp_Compare_int_ent (n : Nat) : Ent T := ⟨86, 13, [], Int, cmp_Compare_int_D n, cmp_Compare_int_enc⟩
def impl_Earliest_1_D (n : Nat) (r0 : List (A T)) : Option Int := ocons r0 fun a0 r1 => ocons r1 fun a1 r2 => ocons r2 fun a2 r3 => onil r3 (obind (argV (T := T) 3 a0) fun a0 => obind (argV (T := T) 3 a1) fun b1 => obind (argP (T := T) 27 a2) fun a2 => impl_Earliest_1 n a0 b1 a2)
def impl_Earliest_1_ent (n : Nat) : Ent T := ⟨85, 14, [], Int, impl_Earliest_1_D n, impl_Earliest_1_enc⟩
def slices_SortFunc_int_int__impl_Earliest_1_D (n : Nat) (ar : List (A T)) : Option (List Int) := match ar with
  | [a0, .fn _ [k1_0]] => obind (argV (T := T) 24 a0) fun l0 => obind (argP (T := T) 27 k1_0) fun c0 => slices_SortFunc_int_int__impl_Earliest_1 n l0 c0
  | _ => none
def slices_SortFunc_int_int__impl_Earliest_1_ent (n : Nat) : Ent T := ⟨84, 15, [85], List Int, slices_SortFunc_int_int__impl_Earliest_1_D n, slices_SortFunc_int_int__impl_Earliest_1_enc⟩
def impl_changes_D (n : Nat) (r0 : List (A T)) : Option Bool := ocons r0 fun a0 r1 => ocons r1 fun a1 r2 => ocons r2 fun a2 r3 => onil r3 (obind (argV (T := T) 41 a0) fun i0 => obind (argV (T := T) 41 a1) fun j1 => obind (argV (T := T) 3 a2) fun change2 => impl_changes n i0 j1 change2)
def impl_changes_ent (n : Nat) : Ent T := ⟨78, 16, [], Bool, impl_changes_D n, impl_changes_enc⟩
def impl_Earliest_D (n : Nat) (r0 : List (A T)) : Option (List Int × Bool) := ocons r0 fun a0 r1 => ocons r1 fun a1 r2 => ocons r2 fun a2 r3 => ocons r3 fun a3 r4 => onil r4 (obind (argV (T := T) 27 a0) fun legs0 => obind (argV (T := T) 3 a1) fun from1 => obind (argV (T := T) 3 a2) fun at2 => obind (argV (T := T) 3 a3) fun change3 => impl_Earliest n legs0 from1 at2 change3)
def impl_Earliest_ent (n : Nat) : Ent T := ⟨24, 17, [], List Int × Bool, impl_Earliest_D n, impl_Earliest_enc⟩
def impl_Travel_1_D (n : Nat) (r0 : List (A T)) : Option Bool := ocons r0 fun a0 r1 => ocons r1 fun a1 r2 => ocons r2 fun a2 r3 => ocons r3 fun a3 r4 => ocons r4 fun a4 r5 => ocons r5 fun a5 r6 => onil r6 (obind (argV (T := T) 3 a0) fun j0 => obind (argP (T := T) 24 a1) fun a1 => obind (argP (T := T) 27 a2) fun a2 => obind (argP (T := T) 3 a3) fun a3 => obind (argP (T := T) 3 a4) fun a4 => obind (argP (T := T) 3 a5) fun a5 => impl_Travel_1 n j0 a1 a2 a3 a4 a5)
def impl_Travel_1_ent (n : Nat) : Ent T := ⟨77, 18, [], Bool, impl_Travel_1_D n, impl_Travel_1_enc⟩
def impl_own_int_D (n : Nat) (r0 : List (A T)) : Option (List Int) := ocons r0 fun a0 r1 => onil r1 (obind (argV (T := T) 24 a0) fun l0 => impl_own_int n l0)
def impl_own_int_ent (n : Nat) : Ent T := ⟨79, 19, [], List Int, impl_own_int_D n, impl_own_int_enc⟩
def impl_Travel_D (n : Nat) (r0 : List (A T)) : Option (List Int × Bool) := ocons r0 fun a0 r1 => ocons r1 fun a1 r2 => ocons r2 fun a2 r3 => ocons r3 fun a3 r4 => ocons r4 fun a4 r5 => onil r5 (obind (argV (T := T) 27 a0) fun legs0 => obind (argV (T := T) 3 a1) fun from1 => obind (argV (T := T) 3 a2) fun to2 => obind (argV (T := T) 3 a3) fun at3 => obind (argV (T := T) 3 a4) fun change4 => impl_Travel n legs0 from1 to2 at3 change4)
def impl_Travel_ent (n : Nat) : Ent T := ⟨15, 20, [], List Int × Bool, impl_Travel_D n, impl_Travel_enc⟩
def laws_FnTravel_D (n : Nat) (r0 : List (A T)) : Option Bool := ocons r0 fun a0 r1 => onil r1 (obind (argV (T := T) 34 a0) fun code0 => laws_FnTravel n code0)
def laws_FnTravel_ent (n : Nat) : Ent T := ⟨4, 21, [], Bool, laws_FnTravel_D n, laws_FnTravel_enc⟩
def ents (n : Nat) : List (Ent T) := [laws_big_ent n, spec_l1New_ent n, spec_l1Byte_ent n, spec_l1Below_ent n, spec_l22Draw_ent n, spec_DrawLegs_ent n, laws_at_ent n, impl_in_ent n, impl_linePort_ent n, impl_minuteOk_ent n, impl_LegsOk_ent n, impl_lineRight_ent n, cmp_isNaN_int_ent n, cmp_Compare_int_ent n, impl_Earliest_1_ent n, slices_SortFunc_int_int__impl_Earliest_1_ent n, impl_changes_ent n, impl_Earliest_ent n, impl_Travel_1_ent n, impl_own_int_ent n, impl_Travel_ent n, laws_FnTravel_ent n]
abbrev Phi (n i : Nat) {R : Type} (f : Nat) (ar : List (A T)) (K : Res T → Option R) : Option R := PhiE (ents n) i f ar K
theorem mixed : Try.prog.follows .mixedOrders = true := by kernel_rfl
noncomputable def laws_big_code : Code := match Try.f21.body with | some c => c | none => .skip
def laws_big_ann : Ann := fun id => none
def laws_big_Ls (n : Nat) : Nat → Option (LSpec T) := fun id => none
theorem laws_big_tie (n : Nat) (code0 : List Int) : evF (T := T) (Phi n 0) (laws_big_Ls n) laws_big_ann n Try.f21 (sg 21) [vA T 34 code0] laws_big_dec = laws_big n code0 := by kernel_rfl
theorem laws_big_lo (n : Nat) : LoopsOk (T := T) (Phi n 0) (laws_big_Ls n) laws_big_ann n laws_big_code := loopsOk_all (cs := []) (by kernel_rfl) trivial
theorem laws_big_ok (n : Nat) : EntOk Try.prog (ents n) (laws_big_ent n) := by
  intro hs ar y hg h
  replace h : laws_big_D n ar = some y := h
  unfold laws_big_D at h
  replace h := ocons_some h
  obtain ⟨a0, r0, rfl, h⟩ := h
  replace h := onil_some h
  obtain ⟨rfl, h⟩ := h
  obtain ⟨code0, qh0, h⟩ := obind_some h
  rw [argV_eq ok qh0]
  exact call_of (phiE_nat _ _) hs ok mixed Try.func21 (c := laws_big_code) (by kernel_rfl) (laws_big_lo n) (by kernel_rfl) (by kernel_rfl) (by kernel_rfl) laws_big_de ((laws_big_tie n code0).trans h)
noncomputable def spec_l1New_code : Code := match Try.f82.body with | some c => c | none => .skip
def spec_l1New_3_sv : List Sv := [.one (.arr 5), .one (.int .i64), .one (.int .i64)]
def spec_l1New_3_so : List So := []
def spec_l1New_3_emb (c : List Int) (x : Int × Int) : EVs T spec_l1New_3_sv × EOs T spec_l1New_3_so := ((c, x.1, x.2, ()), ())
def spec_l1New_3_prj (y : EVs T spec_l1New_3_sv × EOs T spec_l1New_3_so) : List Int × (Int × Int) := ((y.1.1), (y.1.2.1, y.1.2.2.1))
def spec_l1New_3_b (n : Nat) {R : Type} (K : Ex → Sm.St T → Option R) (c : List Int) (x : Int × Int) (J : (Int × Int) → Option R) : Option R :=
  spec_l1New_L3 n (fun (y1 : Int) => K (.exit 0) (stOf (T := T) [0, 3] [] [.one (.arr 5), .one (.int .i64)] [] (c, y1, ()) ())) (fun z0 z1 => J (z0, z1)) c x.1 x.2
def spec_l1New_3_sp (n : Nat) : LSpec T := mkSpec T ⟨[], [0, 3, 4], []⟩ spec_l1New_3_sv spec_l1New_3_so (List Int) (Int × Int) spec_l1New_3_emb spec_l1New_3_prj (spec_l1New_3_b n)
noncomputable def spec_l1New_3_c : Code := ((loopCodes spec_l1New_code)[0]?).getD .skip
def spec_l1New_ann : Ann := fun id => bif Nat.beq id 3000003 then some ⟨[], [0, 3], []⟩ else none
def spec_l1New_Ls (n : Nat) : Nat → Option (LSpec T) := fun id => bif Nat.beq id 3 then some (spec_l1New_3_sp n) else none
theorem spec_l1New_3_le (n : Nat) : LoopEq (T := T) (Phi n 1) (spec_l1New_Ls n) spec_l1New_ann n spec_l1New_3_c (spec_l1New_3_sp n) := ⟨mkSpec_dec (fun y => rfl), fun c x => by kernel_rfl, fun K J c x => by kernel_rfl⟩
theorem spec_l1New_tie (n : Nat) (code0 : List Int) : evF (T := T) (Phi n 1) (spec_l1New_Ls n) spec_l1New_ann n Try.f82 (sg 82) [vA T 34 code0] spec_l1New_dec = spec_l1New n code0 := by kernel_rfl
theorem spec_l1New_lo (n : Nat) : LoopsOk (T := T) (Phi n 1) (spec_l1New_Ls n) spec_l1New_ann n spec_l1New_code := loopsOk_all (cs := [spec_l1New_3_c]) (by kernel_rfl) ⟨⟨_, by kernel_rfl, spec_l1New_3_le n⟩, trivial⟩
theorem spec_l1New_ok (n : Nat) : EntOk Try.prog (ents n) (spec_l1New_ent n) := by
  intro hs ar y hg h
  replace h : spec_l1New_D n ar = some y := h
  unfold spec_l1New_D at h
  replace h := ocons_some h
  obtain ⟨a0, r0, rfl, h⟩ := h
  replace h := onil_some h
  obtain ⟨rfl, h⟩ := h
  obtain ⟨code0, qh0, h⟩ := obind_some h
  rw [argV_eq ok qh0]
  exact call_of (phiE_nat _ _) hs ok mixed Try.func82 (c := spec_l1New_code) (by kernel_rfl) (spec_l1New_lo n) (by kernel_rfl) (by kernel_rfl) (by kernel_rfl) spec_l1New_de ((spec_l1New_tie n code0).trans h)
noncomputable def spec_l1Byte_code : Code := match Try.f188.body with | some c => c | none => .skip
def spec_l1Byte_ann : Ann := fun id => none
def spec_l1Byte_Ls (n : Nat) : Nat → Option (LSpec T) := fun id => none
theorem spec_l1Byte_tie (n : Nat) (c0 : Sl1Cur) : evF (T := T) (Phi n 2) (spec_l1Byte_Ls n) spec_l1Byte_ann n Try.f188 (sg 188) [.ptr 184 c0] spec_l1Byte_dec = spec_l1Byte n c0 := by kernel_rfl
theorem spec_l1Byte_lo (n : Nat) : LoopsOk (T := T) (Phi n 2) (spec_l1Byte_Ls n) spec_l1Byte_ann n spec_l1Byte_code := loopsOk_all (cs := []) (by kernel_rfl) trivial
theorem spec_l1Byte_ok (n : Nat) : EntOk Try.prog (ents n) (spec_l1Byte_ent n) := by
  intro hs ar y hg h
  replace h : spec_l1Byte_D n ar = some y := h
  unfold spec_l1Byte_D at h
  replace h := ocons_some h
  obtain ⟨a0, r0, rfl, h⟩ := h
  replace h := onil_some h
  obtain ⟨rfl, h⟩ := h
  obtain ⟨c0, qh0, h⟩ := obind_some h
  rw [argP_eq qh0]
  exact call_of (phiE_nat _ _) hs ok mixed Try.func188 (c := spec_l1Byte_code) (by kernel_rfl) (spec_l1Byte_lo n) (by kernel_rfl) (by kernel_rfl) (by kernel_rfl) spec_l1Byte_de ((spec_l1Byte_tie n c0).trans h)
noncomputable def spec_l1Below_code : Code := match Try.f132.body with | some c => c | none => .skip
def spec_l1Below_ann : Ann := fun id => none
def spec_l1Below_Ls (n : Nat) : Nat → Option (LSpec T) := fun id => none
theorem spec_l1Below_tie (n : Nat) (c0 : Sl1Cur) (n1 : Int) : evF (T := T) (Phi n 3) (spec_l1Below_Ls n) spec_l1Below_ann n Try.f132 (sg 132) [.ptr 184 c0, vA T 3 n1] spec_l1Below_dec = spec_l1Below n c0 n1 := by kernel_rfl
theorem spec_l1Below_lo (n : Nat) : LoopsOk (T := T) (Phi n 3) (spec_l1Below_Ls n) spec_l1Below_ann n spec_l1Below_code := loopsOk_all (cs := []) (by kernel_rfl) trivial
theorem spec_l1Below_ok (n : Nat) : EntOk Try.prog (ents n) (spec_l1Below_ent n) := by
  intro hs ar y hg h
  replace h : spec_l1Below_D n ar = some y := h
  unfold spec_l1Below_D at h
  replace h := ocons_some h
  obtain ⟨a0, r0, rfl, h⟩ := h
  replace h := ocons_some h
  obtain ⟨a1, r1, rfl, h⟩ := h
  replace h := onil_some h
  obtain ⟨rfl, h⟩ := h
  obtain ⟨c0, qh0, h⟩ := obind_some h
  obtain ⟨n1, qh1, h⟩ := obind_some h
  rw [argP_eq qh0, argV_eq ok qh1]
  exact call_of (phiE_nat _ _) hs ok mixed Try.func132 (c := spec_l1Below_code) (by kernel_rfl) (spec_l1Below_lo n) (by kernel_rfl) (by kernel_rfl) (by kernel_rfl) spec_l1Below_de ((spec_l1Below_tie n c0 n1).trans h)
noncomputable def spec_l22Draw_code : Code := match Try.f81.body with | some c => c | none => .skip
def spec_l22Draw_4_sv : List Sv := [.one (.ptr 4503599627370496 0 0), .one (.own 3000000 41 false), .one (.int .i64), .one (.int .i64)]
def spec_l22Draw_4_so : List So := [.var [.arr 5, .int .i64, .int .i64], .arr 41 false]
def spec_l22Draw_4_emb (c : Int) (x : Int × Sl1Cur × List SLeg) : EVs T spec_l22Draw_4_sv × EOs T spec_l22Draw_4_so := (((), (), c, x.1, ()), ((x.2.1.b, x.2.1.i, x.2.1.h, ()), x.2.2, ()))
def spec_l22Draw_4_prj (y : EVs T spec_l22Draw_4_sv × EOs T spec_l22Draw_4_so) : Int × (Int × Sl1Cur × List SLeg) := ((y.1.2.2.1), (y.1.2.2.2.1, ((⟨y.2.1.1, y.2.1.2.1, y.2.1.2.2.1⟩ : Sl1Cur) : Sl1Cur), y.2.2.1))
def spec_l22Draw_4_b (n : Nat) {R : Type} (K : Ex → Sm.St T → Option R) (c : Int) (x : Int × Sl1Cur × List SLeg) (J : (Int × Sl1Cur × List SLeg) → Option R) : Option R :=
  spec_l22Draw_L4 n (fun (y0 : List SLeg) (y1 : Sl1Cur) => K (.exit 0) (stOf (T := T) [3] [3000000, 4503599627370496] [.one (.own 3000000 41 false)] [.arr 41 false, .var [.arr 5, .int .i64, .int .i64]] ((), ()) (y0, (y1.b, y1.i, y1.h, ()), ()))) (fun z0 z1 z2 => J (z0, z1, z2)) c x.1 x.2.1 x.2.2
def spec_l22Draw_4_sp (n : Nat) : LSpec T := mkSpec T ⟨[((.reg 3), 3000000, 41)], [0, 3, 4, 5], [4503599627370496, 3000000]⟩ spec_l22Draw_4_sv spec_l22Draw_4_so (Int) (Int × Sl1Cur × List SLeg) spec_l22Draw_4_emb spec_l22Draw_4_prj (spec_l22Draw_4_b n)
noncomputable def spec_l22Draw_4_c : Code := ((loopCodes spec_l22Draw_code)[0]?).getD .skip
def spec_l22Draw_8_sv : List Sv := [.one (.ptr 4503599627370496 0 0), .one (.own 3000000 41 false), .one (.int .i64), .one (.int .i64), .one (.int .i64), .one (.int .i64), .one (.int .i64)]
def spec_l22Draw_8_so : List So := [.var [.arr 5, .int .i64, .int .i64], .arr 41 false]
def spec_l22Draw_8_emb (c : Int × Int) (x : Int × Int × Int × Sl1Cur × List SLeg) : EVs T spec_l22Draw_8_sv × EOs T spec_l22Draw_8_so := (((), (), c.1, c.2, x.1, x.2.1, x.2.2.1, ()), ((x.2.2.2.1.b, x.2.2.2.1.i, x.2.2.2.1.h, ()), x.2.2.2.2, ()))
def spec_l22Draw_8_prj (y : EVs T spec_l22Draw_8_sv × EOs T spec_l22Draw_8_so) : (Int × Int) × (Int × Int × Int × Sl1Cur × List SLeg) := ((y.1.2.2.1, y.1.2.2.2.1), (y.1.2.2.2.2.1, y.1.2.2.2.2.2.1, y.1.2.2.2.2.2.2.1, ((⟨y.2.1.1, y.2.1.2.1, y.2.1.2.2.1⟩ : Sl1Cur) : Sl1Cur), y.2.2.1))
def spec_l22Draw_8_b (n : Nat) {R : Type} (K : Ex → Sm.St T → Option R) (c : Int × Int) (x : Int × Int × Int × Sl1Cur × List SLeg) (J : (Int × Int × Int × Sl1Cur × List SLeg) → Option R) : Option R :=
  spec_l22Draw_L8 n (fun (y2 : Sl1Cur) (y3 : List SLeg) => K (.exit 2) (stOf (T := T) [0, 3, 4, 5] [4503599627370496, 3000000] [.one (.ptr 4503599627370496 0 0), .one (.own 3000000 41 false), .one (.int .i64), .one (.int .i64)] [.var [.arr 5, .int .i64, .int .i64], .arr 41 false] ((), (), c.1, c.2, ()) ((y2.b, y2.i, y2.h, ()), y3, ()))) (fun z0 z1 z2 z3 z4 => J (z0, z1, z2, z3, z4)) c.1 c.2 x.1 x.2.1 x.2.2.1 x.2.2.2.1 x.2.2.2.2
def spec_l22Draw_8_sp (n : Nat) : LSpec T := mkSpec T ⟨[((.reg 3), 3000000, 41)], [0, 3, 4, 5, 6, 7, 8], [4503599627370496, 3000000]⟩ spec_l22Draw_8_sv spec_l22Draw_8_so (Int × Int) (Int × Int × Int × Sl1Cur × List SLeg) spec_l22Draw_8_emb spec_l22Draw_8_prj (spec_l22Draw_8_b n)
noncomputable def spec_l22Draw_8_c : Code := ((loopCodes spec_l22Draw_code)[1]?).getD .skip
def spec_l22Draw_ann : Ann := fun id => bif Nat.beq id 3000004 then some ⟨[((.reg 3), 3000000, 41)], [3], [3000000, 4503599627370496]⟩ else bif Nat.beq id 5000008 then some ⟨[((.reg 3), 3000000, 41)], [0, 3, 4, 5], [4503599627370496, 3000000]⟩ else none
def spec_l22Draw_Ls (n : Nat) : Nat → Option (LSpec T) := fun id => bif Nat.beq id 4 then some (spec_l22Draw_4_sp n) else bif Nat.beq id 8 then some (spec_l22Draw_8_sp n) else none
theorem spec_l22Draw_4_le (n : Nat) : LoopEq (T := T) (Phi n 4) (spec_l22Draw_Ls n) spec_l22Draw_ann n spec_l22Draw_4_c (spec_l22Draw_4_sp n) := ⟨mkSpec_dec (fun y => rfl), fun c x => by kernel_rfl, fun K J c x => by kernel_rfl⟩
theorem spec_l22Draw_8_le (n : Nat) : LoopEq (T := T) (Phi n 4) (spec_l22Draw_Ls n) spec_l22Draw_ann n spec_l22Draw_8_c (spec_l22Draw_8_sp n) := ⟨mkSpec_dec (fun y => rfl), fun c x => by kernel_rfl, fun K J c x => by kernel_rfl⟩
theorem spec_l22Draw_tie (n : Nat) (c0 : Sl1Cur) : evF (T := T) (Phi n 4) (spec_l22Draw_Ls n) spec_l22Draw_ann n Try.f81 (sg 81) [.ptr 184 c0] spec_l22Draw_dec = spec_l22Draw n c0 := by kernel_rfl
theorem spec_l22Draw_lo (n : Nat) : LoopsOk (T := T) (Phi n 4) (spec_l22Draw_Ls n) spec_l22Draw_ann n spec_l22Draw_code := loopsOk_all (cs := [spec_l22Draw_4_c, spec_l22Draw_8_c]) (by kernel_rfl) ⟨⟨_, by kernel_rfl, spec_l22Draw_4_le n⟩, ⟨_, by kernel_rfl, spec_l22Draw_8_le n⟩, trivial⟩
theorem spec_l22Draw_ok (n : Nat) : EntOk Try.prog (ents n) (spec_l22Draw_ent n) := by
  intro hs ar y hg h
  replace h : spec_l22Draw_D n ar = some y := h
  unfold spec_l22Draw_D at h
  replace h := ocons_some h
  obtain ⟨a0, r0, rfl, h⟩ := h
  replace h := onil_some h
  obtain ⟨rfl, h⟩ := h
  obtain ⟨c0, qh0, h⟩ := obind_some h
  rw [argP_eq qh0]
  exact call_of (phiE_nat _ _) hs ok mixed Try.func81 (c := spec_l22Draw_code) (by kernel_rfl) (spec_l22Draw_lo n) (by kernel_rfl) (by kernel_rfl) (by kernel_rfl) spec_l22Draw_de ((spec_l22Draw_tie n c0).trans h)
noncomputable def spec_DrawLegs_code : Code := match Try.f22.body with | some c => c | none => .skip
def spec_DrawLegs_ann : Ann := fun id => none
def spec_DrawLegs_Ls (n : Nat) : Nat → Option (LSpec T) := fun id => none
theorem spec_DrawLegs_tie (n : Nat) (code0 : List Int) : evF (T := T) (Phi n 5) (spec_DrawLegs_Ls n) spec_DrawLegs_ann n Try.f22 (sg 22) [vA T 34 code0] spec_DrawLegs_dec = spec_DrawLegs n code0 := by kernel_rfl
theorem spec_DrawLegs_lo (n : Nat) : LoopsOk (T := T) (Phi n 5) (spec_DrawLegs_Ls n) spec_DrawLegs_ann n spec_DrawLegs_code := loopsOk_all (cs := []) (by kernel_rfl) trivial
theorem spec_DrawLegs_ok (n : Nat) : EntOk Try.prog (ents n) (spec_DrawLegs_ent n) := by
  intro hs ar y hg h
  replace h : spec_DrawLegs_D n ar = some y := h
  unfold spec_DrawLegs_D at h
  replace h := ocons_some h
  obtain ⟨a0, r0, rfl, h⟩ := h
  replace h := onil_some h
  obtain ⟨rfl, h⟩ := h
  obtain ⟨code0, qh0, h⟩ := obind_some h
  rw [argV_eq ok qh0]
  exact call_of (phiE_nat _ _) hs ok mixed Try.func22 (c := spec_DrawLegs_code) (by kernel_rfl) (spec_DrawLegs_lo n) (by kernel_rfl) (by kernel_rfl) (by kernel_rfl) spec_DrawLegs_de ((spec_DrawLegs_tie n code0).trans h)
noncomputable def laws_at_code : Code := match Try.f23.body with | some c => c | none => .skip
def laws_at_ann : Ann := fun id => none
def laws_at_Ls (n : Nat) : Nat → Option (LSpec T) := fun id => none
theorem laws_at_tie (n : Nat) (code0 : List Int) (i1 : Int) : evF (T := T) (Phi n 6) (laws_at_Ls n) laws_at_ann n Try.f23 (sg 23) [vA T 34 code0, vA T 3 i1] laws_at_dec = laws_at n code0 i1 := by kernel_rfl
theorem laws_at_lo (n : Nat) : LoopsOk (T := T) (Phi n 6) (laws_at_Ls n) laws_at_ann n laws_at_code := loopsOk_all (cs := []) (by kernel_rfl) trivial
theorem laws_at_ok (n : Nat) : EntOk Try.prog (ents n) (laws_at_ent n) := by
  intro hs ar y hg h
  replace h : laws_at_D n ar = some y := h
  unfold laws_at_D at h
  replace h := ocons_some h
  obtain ⟨a0, r0, rfl, h⟩ := h
  replace h := ocons_some h
  obtain ⟨a1, r1, rfl, h⟩ := h
  replace h := onil_some h
  obtain ⟨rfl, h⟩ := h
  obtain ⟨code0, qh0, h⟩ := obind_some h
  obtain ⟨i1, qh1, h⟩ := obind_some h
  rw [argV_eq ok qh0, argV_eq ok qh1]
  exact call_of (phiE_nat _ _) hs ok mixed Try.func23 (c := laws_at_code) (by kernel_rfl) (laws_at_lo n) (by kernel_rfl) (by kernel_rfl) (by kernel_rfl) laws_at_de ((laws_at_tie n code0 i1).trans h)
noncomputable def impl_in_code : Code := match Try.f87.body with | some c => c | none => .skip
def impl_in_ann : Ann := fun id => none
def impl_in_Ls (n : Nat) : Nat → Option (LSpec T) := fun id => none
theorem impl_in_tie (n : Nat) (n0 : Int) (least1 : Int) (most2 : Int) : evF (T := T) (Phi n 7) (impl_in_Ls n) impl_in_ann n Try.f87 (sg 87) [vA T 3 n0, vA T 3 least1, vA T 3 most2] impl_in_dec = impl_in n n0 least1 most2 := by kernel_rfl
theorem impl_in_lo (n : Nat) : LoopsOk (T := T) (Phi n 7) (impl_in_Ls n) impl_in_ann n impl_in_code := loopsOk_all (cs := []) (by kernel_rfl) trivial
theorem impl_in_ok (n : Nat) : EntOk Try.prog (ents n) (impl_in_ent n) := by
  intro hs ar y hg h
  replace h : impl_in_D n ar = some y := h
  unfold impl_in_D at h
  replace h := ocons_some h
  obtain ⟨a0, r0, rfl, h⟩ := h
  replace h := ocons_some h
  obtain ⟨a1, r1, rfl, h⟩ := h
  replace h := ocons_some h
  obtain ⟨a2, r2, rfl, h⟩ := h
  replace h := onil_some h
  obtain ⟨rfl, h⟩ := h
  obtain ⟨n0, qh0, h⟩ := obind_some h
  obtain ⟨least1, qh1, h⟩ := obind_some h
  obtain ⟨most2, qh2, h⟩ := obind_some h
  rw [argV_eq ok qh0, argV_eq ok qh1, argV_eq ok qh2]
  exact call_of (phiE_nat _ _) hs ok mixed Try.func87 (c := impl_in_code) (by kernel_rfl) (impl_in_lo n) (by kernel_rfl) (by kernel_rfl) (by kernel_rfl) impl_in_de ((impl_in_tie n n0 least1 most2).trans h)
noncomputable def impl_linePort_code : Code := match Try.f76.body with | some c => c | none => .skip
def impl_linePort_ann : Ann := fun id => none
def impl_linePort_Ls (n : Nat) : Nat → Option (LSpec T) := fun id => none
theorem impl_linePort_tie (n : Nat) (n0 : Int) : evF (T := T) (Phi n 8) (impl_linePort_Ls n) impl_linePort_ann n Try.f76 (sg 76) [vA T 3 n0] impl_linePort_dec = impl_linePort n n0 := by kernel_rfl
theorem impl_linePort_lo (n : Nat) : LoopsOk (T := T) (Phi n 8) (impl_linePort_Ls n) impl_linePort_ann n impl_linePort_code := loopsOk_all (cs := []) (by kernel_rfl) trivial
theorem impl_linePort_ok (n : Nat) : EntOk Try.prog (ents n) (impl_linePort_ent n) := by
  intro hs ar y hg h
  replace h : impl_linePort_D n ar = some y := h
  unfold impl_linePort_D at h
  replace h := ocons_some h
  obtain ⟨a0, r0, rfl, h⟩ := h
  replace h := onil_some h
  obtain ⟨rfl, h⟩ := h
  obtain ⟨n0, qh0, h⟩ := obind_some h
  rw [argV_eq ok qh0]
  exact call_of (phiE_nat _ _) hs ok mixed Try.func76 (c := impl_linePort_code) (by kernel_rfl) (impl_linePort_lo n) (by kernel_rfl) (by kernel_rfl) (by kernel_rfl) impl_linePort_de ((impl_linePort_tie n n0).trans h)
noncomputable def impl_minuteOk_code : Code := match Try.f88.body with | some c => c | none => .skip
def impl_minuteOk_ann : Ann := fun id => none
def impl_minuteOk_Ls (n : Nat) : Nat → Option (LSpec T) := fun id => none
theorem impl_minuteOk_tie (n : Nat) (n0 : Int) : evF (T := T) (Phi n 9) (impl_minuteOk_Ls n) impl_minuteOk_ann n Try.f88 (sg 88) [vA T 3 n0] impl_minuteOk_dec = impl_minuteOk n n0 := by kernel_rfl
theorem impl_minuteOk_lo (n : Nat) : LoopsOk (T := T) (Phi n 9) (impl_minuteOk_Ls n) impl_minuteOk_ann n impl_minuteOk_code := loopsOk_all (cs := []) (by kernel_rfl) trivial
theorem impl_minuteOk_ok (n : Nat) : EntOk Try.prog (ents n) (impl_minuteOk_ent n) := by
  intro hs ar y hg h
  replace h : impl_minuteOk_D n ar = some y := h
  unfold impl_minuteOk_D at h
  replace h := ocons_some h
  obtain ⟨a0, r0, rfl, h⟩ := h
  replace h := onil_some h
  obtain ⟨rfl, h⟩ := h
  obtain ⟨n0, qh0, h⟩ := obind_some h
  rw [argV_eq ok qh0]
  exact call_of (phiE_nat _ _) hs ok mixed Try.func88 (c := impl_minuteOk_code) (by kernel_rfl) (impl_minuteOk_lo n) (by kernel_rfl) (by kernel_rfl) (by kernel_rfl) impl_minuteOk_de ((impl_minuteOk_tie n n0).trans h)
noncomputable def impl_LegsOk_code : Code := match Try.f25.body with | some c => c | none => .skip
def impl_LegsOk_5_sv : List Sv := [.one (.map 88), .one (.arr 41), .one (.int .i64), .one (.int .i64)]
def impl_LegsOk_5_so : List So := [.map 3 41]
def impl_LegsOk_5_emb (c : List SLeg × Int) (x : Int × (List (Int × SLeg))) : EVs T impl_LegsOk_5_sv × EOs T impl_LegsOk_5_so := (((), c.1, c.2, x.1, ()), (x.2, ()))
def impl_LegsOk_5_prj (y : EVs T impl_LegsOk_5_sv × EOs T impl_LegsOk_5_so) : (List SLeg × Int) × (Int × (List (Int × SLeg))) := ((y.1.2.1, y.1.2.2.1), (y.1.2.2.2.1, y.2.1))
def impl_LegsOk_5_b (n : Nat) {R : Type} (K : Ex → Sm.St T → Option R) (c : List SLeg × Int) (x : Int × (List (Int × SLeg))) (J : (Int × (List (Int × SLeg))) → Option R) : Option R :=
  impl_LegsOk_L5 n (K (.exit 0) (stOf (T := T) [] [] [] [] () ())) (fun (y0 : Bool) => K .ret (stOf (T := T) [2] [] [.one (.bool)] [] (y0, ()) ())) (fun z0 z1 => J (z0, z1)) c.1 c.2 x.1 x.2
def impl_LegsOk_5_sp (n : Nat) : LSpec T := mkSpec T ⟨[], [3, 12, 13, 14], [88]⟩ impl_LegsOk_5_sv impl_LegsOk_5_so (List SLeg × Int) (Int × (List (Int × SLeg))) impl_LegsOk_5_emb impl_LegsOk_5_prj (impl_LegsOk_5_b n)
noncomputable def impl_LegsOk_5_c : Code := ((loopCodes impl_LegsOk_code)[0]?).getD .skip
def impl_LegsOk_ann : Ann := fun id => bif Nat.beq id 3000005 then some ⟨[], [], []⟩ else bif Nat.beq id 2000005 then some ⟨[], [2], []⟩ else none
def impl_LegsOk_Ls (n : Nat) : Nat → Option (LSpec T) := fun id => bif Nat.beq id 5 then some (impl_LegsOk_5_sp n) else none
theorem impl_LegsOk_5_le (n : Nat) : LoopEq (T := T) (Phi n 10) (impl_LegsOk_Ls n) impl_LegsOk_ann n impl_LegsOk_5_c (impl_LegsOk_5_sp n) := ⟨mkSpec_dec (fun y => rfl), fun c x => by kernel_rfl, fun K J c x => by kernel_rfl⟩
theorem impl_LegsOk_tie (n : Nat) (legs0 : List SLeg) : evF (T := T) (Phi n 10) (impl_LegsOk_Ls n) impl_LegsOk_ann n Try.f25 (sg 25) [vA T 27 legs0] impl_LegsOk_dec = impl_LegsOk n legs0 := by kernel_rfl
theorem impl_LegsOk_lo (n : Nat) : LoopsOk (T := T) (Phi n 10) (impl_LegsOk_Ls n) impl_LegsOk_ann n impl_LegsOk_code := loopsOk_all (cs := [impl_LegsOk_5_c]) (by kernel_rfl) ⟨⟨_, by kernel_rfl, impl_LegsOk_5_le n⟩, trivial⟩
theorem impl_LegsOk_ok (n : Nat) : EntOk Try.prog (ents n) (impl_LegsOk_ent n) := by
  intro hs ar y hg h
  replace h : impl_LegsOk_D n ar = some y := h
  unfold impl_LegsOk_D at h
  replace h := ocons_some h
  obtain ⟨a0, r0, rfl, h⟩ := h
  replace h := onil_some h
  obtain ⟨rfl, h⟩ := h
  obtain ⟨legs0, qh0, h⟩ := obind_some h
  rw [argV_eq ok qh0]
  exact call_of (phiE_nat _ _) hs ok mixed Try.func25 (c := impl_LegsOk_code) (by kernel_rfl) (impl_LegsOk_lo n) (by kernel_rfl) (by kernel_rfl) (by kernel_rfl) impl_LegsOk_de ((impl_LegsOk_tie n legs0).trans h)
noncomputable def impl_lineRight_code : Code := match Try.f83.body with | some c => c | none => .skip
def impl_lineRight_ann : Ann := fun id => none
def impl_lineRight_Ls (n : Nat) : Nat → Option (LSpec T) := fun id => none
theorem impl_lineRight_tie (n : Nat) (legs0 : List SLeg) (from1 : Int) (at2 : Int) (change3 : Int) : evF (T := T) (Phi n 11) (impl_lineRight_Ls n) impl_lineRight_ann n Try.f83 (sg 83) [vA T 27 legs0, vA T 3 from1, vA T 3 at2, vA T 3 change3] impl_lineRight_dec = impl_lineRight n legs0 from1 at2 change3 := by kernel_rfl
theorem impl_lineRight_lo (n : Nat) : LoopsOk (T := T) (Phi n 11) (impl_lineRight_Ls n) impl_lineRight_ann n impl_lineRight_code := loopsOk_all (cs := []) (by kernel_rfl) trivial
theorem impl_lineRight_ok (n : Nat) : EntOk Try.prog (ents n) (impl_lineRight_ent n) := by
  intro hs ar y hg h
  replace h : impl_lineRight_D n ar = some y := h
  unfold impl_lineRight_D at h
  replace h := ocons_some h
  obtain ⟨a0, r0, rfl, h⟩ := h
  replace h := ocons_some h
  obtain ⟨a1, r1, rfl, h⟩ := h
  replace h := ocons_some h
  obtain ⟨a2, r2, rfl, h⟩ := h
  replace h := ocons_some h
  obtain ⟨a3, r3, rfl, h⟩ := h
  replace h := onil_some h
  obtain ⟨rfl, h⟩ := h
  obtain ⟨legs0, qh0, h⟩ := obind_some h
  obtain ⟨from1, qh1, h⟩ := obind_some h
  obtain ⟨at2, qh2, h⟩ := obind_some h
  obtain ⟨change3, qh3, h⟩ := obind_some h
  rw [argV_eq ok qh0, argV_eq ok qh1, argV_eq ok qh2, argV_eq ok qh3]
  exact call_of (phiE_nat _ _) hs ok mixed Try.func83 (c := impl_lineRight_code) (by kernel_rfl) (impl_lineRight_lo n) (by kernel_rfl) (by kernel_rfl) (by kernel_rfl) impl_lineRight_de ((impl_lineRight_tie n legs0 from1 at2 change3).trans h)
noncomputable def cmp_isNaN_int_code : Code := match Try.f168.body with | some c => c | none => .skip
def cmp_isNaN_int_ann : Ann := fun id => none
def cmp_isNaN_int_Ls (n : Nat) : Nat → Option (LSpec T) := fun id => none
theorem cmp_isNaN_int_tie (n : Nat) (x0 : Int) : evF (T := T) (Phi n 12) (cmp_isNaN_int_Ls n) cmp_isNaN_int_ann n Try.f168 (sg 168) [vA T 3 x0] cmp_isNaN_int_dec = cmp_isNaN_int n x0 := by kernel_rfl
theorem cmp_isNaN_int_lo (n : Nat) : LoopsOk (T := T) (Phi n 12) (cmp_isNaN_int_Ls n) cmp_isNaN_int_ann n cmp_isNaN_int_code := loopsOk_all (cs := []) (by kernel_rfl) trivial
theorem cmp_isNaN_int_ok (n : Nat) : EntOk Try.prog (ents n) (cmp_isNaN_int_ent n) := by
  intro hs ar y hg h
  replace h : cmp_isNaN_int_D n ar = some y := h
  unfold cmp_isNaN_int_D at h
  replace h := ocons_some h
  obtain ⟨a0, r0, rfl, h⟩ := h
  replace h := onil_some h
  obtain ⟨rfl, h⟩ := h
  obtain ⟨x0, qh0, h⟩ := obind_some h
  rw [argV_eq ok qh0]
  exact call_of (phiE_nat _ _) hs ok mixed Try.func168 (c := cmp_isNaN_int_code) (by kernel_rfl) (cmp_isNaN_int_lo n) (by kernel_rfl) (by kernel_rfl) (by kernel_rfl) cmp_isNaN_int_de ((cmp_isNaN_int_tie n x0).trans h)
noncomputable def cmp_Compare_int_code : Code := match Try.f86.body with | some c => c | none => .skip
def cmp_Compare_int_ann : Ann := fun id => none
def cmp_Compare_int_Ls (n : Nat) : Nat → Option (LSpec T) := fun id => none
theorem cmp_Compare_int_tie (n : Nat) (x0 : Int) (y1 : Int) : evF (T := T) (Phi n 13) (cmp_Compare_int_Ls n) cmp_Compare_int_ann n Try.f86 (sg 86) [vA T 3 x0, vA T 3 y1] cmp_Compare_int_dec = cmp_Compare_int n x0 y1 := by kernel_rfl
theorem cmp_Compare_int_lo (n : Nat) : LoopsOk (T := T) (Phi n 13) (cmp_Compare_int_Ls n) cmp_Compare_int_ann n cmp_Compare_int_code := loopsOk_all (cs := []) (by kernel_rfl) trivial
theorem cmp_Compare_int_ok (n : Nat) : EntOk Try.prog (ents n) (cmp_Compare_int_ent n) := by
  intro hs ar y hg h
  replace h : cmp_Compare_int_D n ar = some y := h
  unfold cmp_Compare_int_D at h
  replace h := ocons_some h
  obtain ⟨a0, r0, rfl, h⟩ := h
  replace h := ocons_some h
  obtain ⟨a1, r1, rfl, h⟩ := h
  replace h := onil_some h
  obtain ⟨rfl, h⟩ := h
  obtain ⟨x0, qh0, h⟩ := obind_some h
  obtain ⟨y1, qh1, h⟩ := obind_some h
  rw [argV_eq ok qh0, argV_eq ok qh1]
  exact call_of (phiE_nat _ _) hs ok mixed Try.func86 (c := cmp_Compare_int_code) (by kernel_rfl) (cmp_Compare_int_lo n) (by kernel_rfl) (by kernel_rfl) (by kernel_rfl) cmp_Compare_int_de ((cmp_Compare_int_tie n x0 y1).trans h)
noncomputable def impl_Earliest_1_code : Code := match Try.f85.body with | some c => c | none => .skip
def impl_Earliest_1_ann : Ann := fun id => none
def impl_Earliest_1_Ls (n : Nat) : Nat → Option (LSpec T) := fun id => none
theorem impl_Earliest_1_tie (n : Nat) (a0 : Int) (b1 : Int) (a2 : List SLeg) : evF (T := T) (Phi n 14) (impl_Earliest_1_Ls n) impl_Earliest_1_ann n Try.f85 (sg 85) [vA T 3 a0, vA T 3 b1, .ptr 27 a2] impl_Earliest_1_dec = impl_Earliest_1 n a0 b1 a2 := by kernel_rfl
theorem impl_Earliest_1_lo (n : Nat) : LoopsOk (T := T) (Phi n 14) (impl_Earliest_1_Ls n) impl_Earliest_1_ann n impl_Earliest_1_code := loopsOk_all (cs := []) (by kernel_rfl) trivial
theorem impl_Earliest_1_ok (n : Nat) : EntOk Try.prog (ents n) (impl_Earliest_1_ent n) := by
  intro hs ar y hg h
  replace h : impl_Earliest_1_D n ar = some y := h
  unfold impl_Earliest_1_D at h
  replace h := ocons_some h
  obtain ⟨a0, r0, rfl, h⟩ := h
  replace h := ocons_some h
  obtain ⟨a1, r1, rfl, h⟩ := h
  replace h := ocons_some h
  obtain ⟨a2, r2, rfl, h⟩ := h
  replace h := onil_some h
  obtain ⟨rfl, h⟩ := h
  obtain ⟨a0, qh0, h⟩ := obind_some h
  obtain ⟨b1, qh1, h⟩ := obind_some h
  obtain ⟨a2, qh2, h⟩ := obind_some h
  rw [argV_eq ok qh0, argV_eq ok qh1, argP_eq qh2]
  exact call_of (phiE_nat _ _) hs ok mixed Try.func85 (c := impl_Earliest_1_code) (by kernel_rfl) (impl_Earliest_1_lo n) (by kernel_rfl) (by kernel_rfl) (by kernel_rfl) impl_Earliest_1_de ((impl_Earliest_1_tie n a0 b1 a2).trans h)
theorem slices_SortFunc_int_int__impl_Earliest_1_cl (n : Nat) (x y : U 3) (c0 : List SLeg) : PhiE (T := T) (ents n) 15 85 [vA T 3 x, vA T 3 y, .ptr 27 c0] some = (impl_Earliest_1 n x y c0).bind fun r => some (impl_Earliest_1_enc r) := by kernel_rfl
theorem slices_SortFunc_int_int__impl_Earliest_1_ok (n : Nat) : EntOk Try.prog (ents n) (slices_SortFunc_int_int__impl_Earliest_1_ent n) := by
  intro hs ar y hg h
  replace h : slices_SortFunc_int_int__impl_Earliest_1_D n ar = some y := h
  unfold slices_SortFunc_int_int__impl_Earliest_1_D at h
  split at h
  · obtain ⟨l0, qh0, h⟩ := obind_some h
    obtain ⟨c0, qh1, h⟩ := obind_some h
    rw [argV_eq ok qh0, argP_eq qh1] at hg ⊢
    cases (show [_] = [85] from natsEq_eq hg)
    refine sortL1_call ok lay84 (e := 3) (g := 85) (caps := [.ptr 27 c0]) (by kernel_rfl) (by kernel_rfl) (by kernel_rfl) (by kernel_rfl) (by kernel_rfl) (fun x y c hc => ?_) h
    have h1 : PhiE (T := T) (ents n) 15 85 [vA T 3 x, vA T 3 y, .ptr 27 c0] some = some (impl_Earliest_1_enc c) := (slices_SortFunc_int_int__impl_Earliest_1_cl n x y c0).trans (by rw [show impl_Earliest_1 n x y c0 = some c from hc]; rfl)
    obtain ⟨res, h2, h3⟩ := hs _ _ _ _ h1
    cases h3
    exact h2
  · cases h
noncomputable def impl_changes_code : Code := match Try.f78.body with | some c => c | none => .skip
def impl_changes_ann : Ann := fun id => none
def impl_changes_Ls (n : Nat) : Nat → Option (LSpec T) := fun id => none
theorem impl_changes_tie (n : Nat) (i0 : SLeg) (j1 : SLeg) (change2 : Int) : evF (T := T) (Phi n 16) (impl_changes_Ls n) impl_changes_ann n Try.f78 (sg 78) [vA T 41 i0, vA T 41 j1, vA T 3 change2] impl_changes_dec = impl_changes n i0 j1 change2 := by kernel_rfl
theorem impl_changes_lo (n : Nat) : LoopsOk (T := T) (Phi n 16) (impl_changes_Ls n) impl_changes_ann n impl_changes_code := loopsOk_all (cs := []) (by kernel_rfl) trivial
theorem impl_changes_ok (n : Nat) : EntOk Try.prog (ents n) (impl_changes_ent n) := by
  intro hs ar y hg h
  replace h : impl_changes_D n ar = some y := h
  unfold impl_changes_D at h
  replace h := ocons_some h
  obtain ⟨a0, r0, rfl, h⟩ := h
  replace h := ocons_some h
  obtain ⟨a1, r1, rfl, h⟩ := h
  replace h := ocons_some h
  obtain ⟨a2, r2, rfl, h⟩ := h
  replace h := onil_some h
  obtain ⟨rfl, h⟩ := h
  obtain ⟨i0, qh0, h⟩ := obind_some h
  obtain ⟨j1, qh1, h⟩ := obind_some h
  obtain ⟨change2, qh2, h⟩ := obind_some h
  rw [argV_eq ok qh0, argV_eq ok qh1, argV_eq ok qh2]
  exact call_of (phiE_nat _ _) hs ok mixed Try.func78 (c := impl_changes_code) (by kernel_rfl) (impl_changes_lo n) (by kernel_rfl) (by kernel_rfl) (by kernel_rfl) impl_changes_de ((impl_changes_tie n i0 j1 change2).trans h)
noncomputable def impl_Earliest_code : Code := match Try.f24.body with | some c => c | none => .skip
def impl_Earliest_5_sv : List Sv := [.one (.int .i64), .one (.int .i64), .one (.int .i64), .one (.ptr 32 0 0), .one (.own 3000000 3 false), .one (.int .i64), .one (.int .i64)]
def impl_Earliest_5_so : List So := [.var [.arr 41], .arr 3 false]
def impl_Earliest_5_emb (c : Int × Int × Int × Int × List SLeg) (x : Int × List Int) : EVs T impl_Earliest_5_sv × EOs T impl_Earliest_5_so := ((c.1, c.2.1, c.2.2.1, (), (), c.2.2.2.1, x.1, ()), ((c.2.2.2.2, ()), x.2, ()))
def impl_Earliest_5_prj (y : EVs T impl_Earliest_5_sv × EOs T impl_Earliest_5_so) : (Int × Int × Int × Int × List SLeg) × (Int × List Int) := ((y.1.1, y.1.2.1, y.1.2.2.1, y.1.2.2.2.2.2.1, y.2.1.1), (y.1.2.2.2.2.2.2.1, y.2.2.1))
def impl_Earliest_5_b (n : Nat) {R : Type} (K : Ex → Sm.St T → Option R) (c : Int × Int × Int × Int × List SLeg) (x : Int × List Int) (J : (Int × List Int) → Option R) : Option R :=
  impl_Earliest_L5 n (fun (y4 : List Int) => K (.exit 0) (stOf (T := T) [1, 2, 3, 4, 10] [32, 3000000] [.one (.int .i64), .one (.int .i64), .one (.int .i64), .one (.ptr 32 0 0), .one (.own 3000000 3 false)] [.var [.arr 41], .arr 3 false] (c.1, c.2.1, c.2.2.1, (), (), ()) ((c.2.2.2.2, ()), y4, ()))) (fun z0 z1 => J (z0, z1)) c.1 c.2.1 c.2.2.1 c.2.2.2.1 x.1 c.2.2.2.2 x.2
def impl_Earliest_5_sp (n : Nat) : LSpec T := mkSpec T ⟨[((.reg 10), 3000000, 3)], [1, 2, 3, 4, 10, 27, 28], [32, 3000000]⟩ impl_Earliest_5_sv impl_Earliest_5_so (Int × Int × Int × Int × List SLeg) (Int × List Int) impl_Earliest_5_emb impl_Earliest_5_prj (impl_Earliest_5_b n)
noncomputable def impl_Earliest_5_c : Code := ((loopCodes impl_Earliest_code)[0]?).getD .skip
def impl_Earliest_12_sv : List Sv := [.one (.int .i64), .one (.int .i64), .one (.int .i64), .one (.ptr 32 0 0), .one (.own 3000000 3 false), .one (.own 3000001 3 false), .one (.int .i64), .one (.int .i64)]
def impl_Earliest_12_so : List So := [.var [.arr 41], .arr 3 false, .arr 3 false]
def impl_Earliest_12_emb (c : Int × Int × Int × Int × List SLeg × List Int) (x : Int × List Int) : EVs T impl_Earliest_12_sv × EOs T impl_Earliest_12_so := ((c.1, c.2.1, c.2.2.1, (), (), (), c.2.2.2.1, x.1, ()), ((c.2.2.2.2.1, ()), c.2.2.2.2.2, x.2, ()))
def impl_Earliest_12_prj (y : EVs T impl_Earliest_12_sv × EOs T impl_Earliest_12_so) : (Int × Int × Int × Int × List SLeg × List Int) × (Int × List Int) := ((y.1.1, y.1.2.1, y.1.2.2.1, y.1.2.2.2.2.2.2.1, y.2.1.1, y.2.2.1), (y.1.2.2.2.2.2.2.2.1, y.2.2.2.1))
def impl_Earliest_12_b (n : Nat) {R : Type} (K : Ex → Sm.St T → Option R) (c : Int × Int × Int × Int × List SLeg × List Int) (x : Int × List Int) (J : (Int × List Int) → Option R) : Option R :=
  impl_Earliest_L12 n (fun (y5 : List Int) => K (.exit 2) (stOf (T := T) [1, 2, 3, 4, 10, 12] [32, 3000000, 3000001] [.one (.int .i64), .one (.int .i64), .one (.int .i64), .one (.ptr 32 0 0), .one (.own 3000000 3 false), .one (.own 3000001 3 false)] [.var [.arr 41], .arr 3 false, .arr 3 false] (c.1, c.2.1, c.2.2.1, (), (), (), ()) ((c.2.2.2.2.1, ()), c.2.2.2.2.2, y5, ()))) (fun z0 z1 => J (z0, z1)) c.1 c.2.1 c.2.2.1 c.2.2.2.1 x.1 c.2.2.2.2.1 c.2.2.2.2.2 x.2
def impl_Earliest_12_sp (n : Nat) : LSpec T := mkSpec T ⟨[((.reg 10), 3000000, 3), ((.reg 12), 3000001, 3)], [1, 2, 3, 4, 10, 12, 43, 44], [32, 3000000, 3000001]⟩ impl_Earliest_12_sv impl_Earliest_12_so (Int × Int × Int × Int × List SLeg × List Int) (Int × List Int) impl_Earliest_12_emb impl_Earliest_12_prj (impl_Earliest_12_b n)
noncomputable def impl_Earliest_12_c : Code := ((loopCodes impl_Earliest_code)[1]?).getD .skip
def impl_Earliest_19_sv : List Sv := [.one (.int .i64), .one (.int .i64), .one (.int .i64), .one (.ptr 32 0 0), .one (.own 3000000 3 false), .one (.own 3000002 4 false), .one (.own 3000003 3 false), .one (.int .i64), .one (.int .i64)]
def impl_Earliest_19_so : List So := [.var [.arr 41], .arr 3 false, .arr 4 false, .arr 3 false]
def impl_Earliest_19_emb (c : Int × Int × Int × Int × List SLeg × List Int) (x : Int × List Int × List Bool) : EVs T impl_Earliest_19_sv × EOs T impl_Earliest_19_so := ((c.1, c.2.1, c.2.2.1, (), (), (), (), c.2.2.2.1, x.1, ()), ((c.2.2.2.2.1, ()), x.2.1, x.2.2, c.2.2.2.2.2, ()))
def impl_Earliest_19_prj (y : EVs T impl_Earliest_19_sv × EOs T impl_Earliest_19_so) : (Int × Int × Int × Int × List SLeg × List Int) × (Int × List Int × List Bool) := ((y.1.1, y.1.2.1, y.1.2.2.1, y.1.2.2.2.2.2.2.2.1, y.2.1.1, y.2.2.2.2.1), (y.1.2.2.2.2.2.2.2.2.1, y.2.2.1, y.2.2.2.1))
def impl_Earliest_19_b (n : Nat) {R : Type} (K : Ex → Sm.St T → Option R) (c : Int × Int × Int × Int × List SLeg × List Int) (x : Int × List Int × List Bool) (J : (Int × List Int × List Bool) → Option R) : Option R :=
  impl_Earliest_L19 n (fun (y0 : List Int) => K (.exit 4) (stOf (T := T) [10] [3000000] [.one (.own 3000000 3 false)] [.arr 3 false] ((), ()) (y0, ()))) (fun z0 z1 z2 => J (z0, z1, z2)) c.1 c.2.1 c.2.2.1 c.2.2.2.1 x.1 c.2.2.2.2.1 x.2.1 x.2.2 c.2.2.2.2.2
def impl_Earliest_19_sp (n : Nat) : LSpec T := mkSpec T ⟨[((.reg 10), 3000000, 3), ((.reg 14), 3000002, 4), ((.reg 58), 3000003, 3)], [1, 2, 3, 4, 10, 14, 58, 59, 60], [32, 3000000, 3000002, 3000003]⟩ impl_Earliest_19_sv impl_Earliest_19_so (Int × Int × Int × Int × List SLeg × List Int) (Int × List Int × List Bool) impl_Earliest_19_emb impl_Earliest_19_prj (impl_Earliest_19_b n)
noncomputable def impl_Earliest_19_c : Code := ((loopCodes impl_Earliest_code)[2]?).getD .skip
def impl_Earliest_24_sv : List Sv := [.one (.int .i64), .one (.int .i64), .one (.int .i64), .one (.ptr 32 0 0), .one (.own 3000000 3 false), .one (.own 3000002 4 false), .one (.int .i64), .one (.ptr 136 0 0), .one (.own 3000003 3 false), .one (.int .i64), .one (.int .i64), .one (.int .i64), .one (.int .i64)]
def impl_Earliest_24_so : List So := [.var [.arr 41], .arr 3 false, .arr 4 false, .var [.int .i64, .int .i64, .int .i64, .int .i64, .int .i64, .int .i64], .arr 3 false]
def impl_Earliest_24_emb (c : Int × Int × Int × Int × Int × Int × Int × List SLeg × List Int × SLeg × List Int) (x : Int × List Bool) : EVs T impl_Earliest_24_sv × EOs T impl_Earliest_24_so := ((c.1, c.2.1, c.2.2.1, (), (), (), c.2.2.2.1, (), (), c.2.2.2.2.1, c.2.2.2.2.2.1, c.2.2.2.2.2.2.1, x.1, ()), ((c.2.2.2.2.2.2.2.1, ()), c.2.2.2.2.2.2.2.2.1, x.2, (c.2.2.2.2.2.2.2.2.2.1.Service, c.2.2.2.2.2.2.2.2.2.1.From, c.2.2.2.2.2.2.2.2.2.1.To, c.2.2.2.2.2.2.2.2.2.1.Leaves, c.2.2.2.2.2.2.2.2.2.1.Comes, c.2.2.2.2.2.2.2.2.2.1.Room, ()), c.2.2.2.2.2.2.2.2.2.2, ()))
def impl_Earliest_24_prj (y : EVs T impl_Earliest_24_sv × EOs T impl_Earliest_24_so) : (Int × Int × Int × Int × Int × Int × Int × List SLeg × List Int × SLeg × List Int) × (Int × List Bool) := ((y.1.1, y.1.2.1, y.1.2.2.1, y.1.2.2.2.2.2.2.1, y.1.2.2.2.2.2.2.2.2.2.1, y.1.2.2.2.2.2.2.2.2.2.2.1, y.1.2.2.2.2.2.2.2.2.2.2.2.1, y.2.1.1, y.2.2.1, ((⟨y.2.2.2.2.1.1, y.2.2.2.2.1.2.1, y.2.2.2.2.1.2.2.1, y.2.2.2.2.1.2.2.2.1, y.2.2.2.2.1.2.2.2.2.1, y.2.2.2.2.1.2.2.2.2.2.1⟩ : SLeg) : SLeg), y.2.2.2.2.2.1), (y.1.2.2.2.2.2.2.2.2.2.2.2.2.1, y.2.2.2.1))
def impl_Earliest_24_b (n : Nat) {R : Type} (K : Ex → Sm.St T → Option R) (c : Int × Int × Int × Int × Int × Int × Int × List SLeg × List Int × SLeg × List Int) (x : Int × List Bool) (J : (Int × List Bool) → Option R) : Option R :=
  impl_Earliest_L24 n (fun (y8 : List Bool) => K (.exit 6) (stOf (T := T) [1, 2, 3, 4, 10, 14, 16, 17, 58, 59, 60] [32, 3000000, 3000002, 136, 3000003] [.one (.int .i64), .one (.int .i64), .one (.int .i64), .one (.ptr 32 0 0), .one (.own 3000000 3 false), .one (.own 3000002 4 false), .one (.int .i64), .one (.ptr 136 0 0), .one (.own 3000003 3 false), .one (.int .i64), .one (.int .i64)] [.var [.arr 41], .arr 3 false, .arr 4 false, .var [.int .i64, .int .i64, .int .i64, .int .i64, .int .i64, .int .i64], .arr 3 false] (c.1, c.2.1, c.2.2.1, (), (), (), c.2.2.2.1, (), (), c.2.2.2.2.1, c.2.2.2.2.2.1, ()) ((c.2.2.2.2.2.2.2.1, ()), c.2.2.2.2.2.2.2.2.1, y8, (c.2.2.2.2.2.2.2.2.2.1.Service, c.2.2.2.2.2.2.2.2.2.1.From, c.2.2.2.2.2.2.2.2.2.1.To, c.2.2.2.2.2.2.2.2.2.1.Leaves, c.2.2.2.2.2.2.2.2.2.1.Comes, c.2.2.2.2.2.2.2.2.2.1.Room, ()), c.2.2.2.2.2.2.2.2.2.2, ()))) (fun z0 z1 => J (z0, z1)) c.1 c.2.1 c.2.2.1 c.2.2.2.1 c.2.2.2.2.1 c.2.2.2.2.2.1 c.2.2.2.2.2.2.1 x.1 c.2.2.2.2.2.2.2.1 c.2.2.2.2.2.2.2.2.1 x.2 c.2.2.2.2.2.2.2.2.2.1 c.2.2.2.2.2.2.2.2.2.2
def impl_Earliest_24_sp (n : Nat) : LSpec T := mkSpec T ⟨[((.reg 10), 3000000, 3), ((.reg 14), 3000002, 4), ((.reg 58), 3000003, 3)], [1, 2, 3, 4, 10, 14, 16, 17, 58, 59, 60, 82, 83], [32, 3000000, 3000002, 136, 3000003]⟩ impl_Earliest_24_sv impl_Earliest_24_so (Int × Int × Int × Int × Int × Int × Int × List SLeg × List Int × SLeg × List Int) (Int × List Bool) impl_Earliest_24_emb impl_Earliest_24_prj (impl_Earliest_24_b n)
noncomputable def impl_Earliest_24_c : Code := ((loopCodes impl_Earliest_code)[3]?).getD .skip
def impl_Earliest_ann : Ann := fun id => bif Nat.beq id 3000005 then some ⟨[((.reg 10), 3000000, 3)], [1, 2, 3, 4, 10], [32, 3000000]⟩ else bif Nat.beq id 5000012 then some ⟨[((.reg 10), 3000000, 3), ((.reg 12), 3000001, 3)], [1, 2, 3, 4, 10, 12], [32, 3000000, 3000001]⟩ else bif Nat.beq id 7000019 then some ⟨[((.reg 10), 3000000, 3)], [10], [3000000]⟩ else bif Nat.beq id 9000024 then some ⟨[((.reg 10), 3000000, 3), ((.reg 14), 3000002, 4), ((.reg 58), 3000003, 3)], [1, 2, 3, 4, 10, 14, 16, 17, 58, 59, 60], [32, 3000000, 3000002, 136, 3000003]⟩ else none
def impl_Earliest_Ls (n : Nat) : Nat → Option (LSpec T) := fun id => bif Nat.beq id 5 then some (impl_Earliest_5_sp n) else bif Nat.beq id 12 then some (impl_Earliest_12_sp n) else bif Nat.beq id 19 then some (impl_Earliest_19_sp n) else bif Nat.beq id 24 then some (impl_Earliest_24_sp n) else none
theorem impl_Earliest_5_le (n : Nat) : LoopEq (T := T) (Phi n 17) (impl_Earliest_Ls n) impl_Earliest_ann n impl_Earliest_5_c (impl_Earliest_5_sp n) := ⟨mkSpec_dec (fun y => rfl), fun c x => by kernel_rfl, fun K J c x => by kernel_rfl⟩
theorem impl_Earliest_12_le (n : Nat) : LoopEq (T := T) (Phi n 17) (impl_Earliest_Ls n) impl_Earliest_ann n impl_Earliest_12_c (impl_Earliest_12_sp n) := ⟨mkSpec_dec (fun y => rfl), fun c x => by kernel_rfl, fun K J c x => by kernel_rfl⟩
theorem impl_Earliest_19_le (n : Nat) : LoopEq (T := T) (Phi n 17) (impl_Earliest_Ls n) impl_Earliest_ann n impl_Earliest_19_c (impl_Earliest_19_sp n) := ⟨mkSpec_dec (fun y => rfl), fun c x => by kernel_rfl, fun K J c x => by kernel_rfl⟩
theorem impl_Earliest_24_le (n : Nat) : LoopEq (T := T) (Phi n 17) (impl_Earliest_Ls n) impl_Earliest_ann n impl_Earliest_24_c (impl_Earliest_24_sp n) := ⟨mkSpec_dec (fun y => rfl), fun c x => by kernel_rfl, fun K J c x => by kernel_rfl⟩
theorem impl_Earliest_tie (n : Nat) (legs0 : List SLeg) (from1 : Int) (at2 : Int) (change3 : Int) : evF (T := T) (Phi n 17) (impl_Earliest_Ls n) impl_Earliest_ann n Try.f24 (sg 24) [vA T 27 legs0, vA T 3 from1, vA T 3 at2, vA T 3 change3] impl_Earliest_dec = impl_Earliest n legs0 from1 at2 change3 := by kernel_rfl
theorem impl_Earliest_lo (n : Nat) : LoopsOk (T := T) (Phi n 17) (impl_Earliest_Ls n) impl_Earliest_ann n impl_Earliest_code := loopsOk_all (cs := [impl_Earliest_5_c, impl_Earliest_12_c, impl_Earliest_19_c, impl_Earliest_24_c]) (by kernel_rfl) ⟨⟨_, by kernel_rfl, impl_Earliest_5_le n⟩, ⟨_, by kernel_rfl, impl_Earliest_12_le n⟩, ⟨_, by kernel_rfl, impl_Earliest_19_le n⟩, ⟨_, by kernel_rfl, impl_Earliest_24_le n⟩, trivial⟩
theorem impl_Earliest_ok (n : Nat) : EntOk Try.prog (ents n) (impl_Earliest_ent n) := by
  intro hs ar y hg h
  replace h : impl_Earliest_D n ar = some y := h
  unfold impl_Earliest_D at h
  replace h := ocons_some h
  obtain ⟨a0, r0, rfl, h⟩ := h
  replace h := ocons_some h
  obtain ⟨a1, r1, rfl, h⟩ := h
  replace h := ocons_some h
  obtain ⟨a2, r2, rfl, h⟩ := h
  replace h := ocons_some h
  obtain ⟨a3, r3, rfl, h⟩ := h
  replace h := onil_some h
  obtain ⟨rfl, h⟩ := h
  obtain ⟨legs0, qh0, h⟩ := obind_some h
  obtain ⟨from1, qh1, h⟩ := obind_some h
  obtain ⟨at2, qh2, h⟩ := obind_some h
  obtain ⟨change3, qh3, h⟩ := obind_some h
  rw [argV_eq ok qh0, argV_eq ok qh1, argV_eq ok qh2, argV_eq ok qh3]
  exact call_of (phiE_nat _ _) hs ok mixed Try.func24 (c := impl_Earliest_code) (by kernel_rfl) (impl_Earliest_lo n) (by kernel_rfl) (by kernel_rfl) (by kernel_rfl) impl_Earliest_de ((impl_Earliest_tie n legs0 from1 at2 change3).trans h)
noncomputable def impl_Travel_1_code : Code := match Try.f77.body with | some c => c | none => .skip
def impl_Travel_1_ann : Ann := fun id => none
def impl_Travel_1_Ls (n : Nat) : Nat → Option (LSpec T) := fun id => none
theorem impl_Travel_1_tie (n : Nat) (j0 : Int) (a1 : List Int) (a2 : List SLeg) (a3 : Int) (a4 : Int) (a5 : Int) : evF (T := T) (Phi n 18) (impl_Travel_1_Ls n) impl_Travel_1_ann n Try.f77 (sg 77) [vA T 3 j0, .ptr 24 a1, .ptr 27 a2, .ptr 3 a3, .ptr 3 a4, .ptr 3 a5] impl_Travel_1_dec = impl_Travel_1 n j0 a1 a2 a3 a4 a5 := by kernel_rfl
theorem impl_Travel_1_lo (n : Nat) : LoopsOk (T := T) (Phi n 18) (impl_Travel_1_Ls n) impl_Travel_1_ann n impl_Travel_1_code := loopsOk_all (cs := []) (by kernel_rfl) trivial
theorem impl_Travel_1_ok (n : Nat) : EntOk Try.prog (ents n) (impl_Travel_1_ent n) := by
  intro hs ar y hg h
  replace h : impl_Travel_1_D n ar = some y := h
  unfold impl_Travel_1_D at h
  replace h := ocons_some h
  obtain ⟨a0, r0, rfl, h⟩ := h
  replace h := ocons_some h
  obtain ⟨a1, r1, rfl, h⟩ := h
  replace h := ocons_some h
  obtain ⟨a2, r2, rfl, h⟩ := h
  replace h := ocons_some h
  obtain ⟨a3, r3, rfl, h⟩ := h
  replace h := ocons_some h
  obtain ⟨a4, r4, rfl, h⟩ := h
  replace h := ocons_some h
  obtain ⟨a5, r5, rfl, h⟩ := h
  replace h := onil_some h
  obtain ⟨rfl, h⟩ := h
  obtain ⟨j0, qh0, h⟩ := obind_some h
  obtain ⟨a1, qh1, h⟩ := obind_some h
  obtain ⟨a2, qh2, h⟩ := obind_some h
  obtain ⟨a3, qh3, h⟩ := obind_some h
  obtain ⟨a4, qh4, h⟩ := obind_some h
  obtain ⟨a5, qh5, h⟩ := obind_some h
  rw [argV_eq ok qh0, argP_eq qh1, argP_eq qh2, argP_eq qh3, argP_eq qh4, argP_eq qh5]
  exact call_of (phiE_nat _ _) hs ok mixed Try.func77 (c := impl_Travel_1_code) (by kernel_rfl) (impl_Travel_1_lo n) (by kernel_rfl) (by kernel_rfl) (by kernel_rfl) impl_Travel_1_de ((impl_Travel_1_tie n j0 a1 a2 a3 a4 a5).trans h)
noncomputable def impl_own_int_code : Code := match Try.f79.body with | some c => c | none => .skip
def impl_own_int_ann : Ann := fun id => none
def impl_own_int_Ls (n : Nat) : Nat → Option (LSpec T) := fun id => none
theorem impl_own_int_tie (n : Nat) (l0 : List Int) : evF (T := T) (Phi n 19) (impl_own_int_Ls n) impl_own_int_ann n Try.f79 (sg 79) [vA T 24 l0] impl_own_int_dec = impl_own_int n l0 := by kernel_rfl
theorem impl_own_int_lo (n : Nat) : LoopsOk (T := T) (Phi n 19) (impl_own_int_Ls n) impl_own_int_ann n impl_own_int_code := loopsOk_all (cs := []) (by kernel_rfl) trivial
theorem impl_own_int_ok (n : Nat) : EntOk Try.prog (ents n) (impl_own_int_ent n) := by
  intro hs ar y hg h
  replace h : impl_own_int_D n ar = some y := h
  unfold impl_own_int_D at h
  replace h := ocons_some h
  obtain ⟨a0, r0, rfl, h⟩ := h
  replace h := onil_some h
  obtain ⟨rfl, h⟩ := h
  obtain ⟨l0, qh0, h⟩ := obind_some h
  rw [argV_eq ok qh0]
  exact call_of (phiE_nat _ _) hs ok mixed Try.func79 (c := impl_own_int_code) (by kernel_rfl) (impl_own_int_lo n) (by kernel_rfl) (by kernel_rfl) (by kernel_rfl) impl_own_int_de ((impl_own_int_tie n l0).trans h)
noncomputable def impl_Travel_code : Code := match Try.f15.body with | some c => c | none => .skip
def impl_Travel_8_sv : List Sv := [.one (.int .i64), .one (.ptr 40 0 0), .one (.ptr 48 0 0), .one (.ptr 64 0 0), .one (.ptr 72 0 0), .one (.own 3000000 3 false), .one (.own 3000001 119 false), .one (.arr 41), .one (.int .i64), .one (.int .i64)]
def impl_Travel_8_so : List So := [.var [.arr 41], .var [.int .i64], .var [.int .i64], .var [.int .i64], .arr 3 false, .arr 119 false]
def impl_Travel_8_emb (c : Int × List SLeg × Int × List SLeg × Int × Int × Int × List Int) (x : Int × List (List Bool)) : EVs T impl_Travel_8_sv × EOs T impl_Travel_8_so := ((c.1, (), (), (), (), (), (), c.2.1, c.2.2.1, x.1, ()), ((c.2.2.2.1, ()), (c.2.2.2.2.1, ()), (c.2.2.2.2.2.1, ()), (c.2.2.2.2.2.2.1, ()), c.2.2.2.2.2.2.2, x.2, ()))
def impl_Travel_8_prj (y : EVs T impl_Travel_8_sv × EOs T impl_Travel_8_so) : (Int × List SLeg × Int × List SLeg × Int × Int × Int × List Int) × (Int × List (List Bool)) := ((y.1.1, y.1.2.2.2.2.2.2.2.1, y.1.2.2.2.2.2.2.2.2.1, y.2.1.1, y.2.2.1.1, y.2.2.2.1.1, y.2.2.2.2.1.1, y.2.2.2.2.2.1), (y.1.2.2.2.2.2.2.2.2.2.1, y.2.2.2.2.2.2.1))
def impl_Travel_8_b (n : Nat) {R : Type} (K : Ex → Sm.St T → Option R) (c : Int × List SLeg × Int × List SLeg × Int × Int × Int × List Int) (x : Int × List (List Bool)) (J : (Int × List (List Bool)) → Option R) : Option R :=
  impl_Travel_L8 n (fun (y4 : List (List Bool)) => K (.exit 0) (stOf (T := T) [5, 6, 8, 9, 14] [40, 48, 64, 72, 3000001] [.one (.ptr 40 0 0), .one (.ptr 48 0 0), .one (.ptr 64 0 0), .one (.ptr 72 0 0), .one (.own 3000001 119 false)] [.var [.arr 41], .var [.int .i64], .var [.int .i64], .var [.int .i64], .arr 119 false] ((), (), (), (), (), ()) ((c.2.2.2.1, ()), (c.2.2.2.2.1, ()), (c.2.2.2.2.2.1, ()), (c.2.2.2.2.2.2.1, ()), y4, ()))) (fun z0 z1 => J (z0, z1)) c.1 c.2.1 c.2.2.1 x.1 c.2.2.2.1 c.2.2.2.2.1 c.2.2.2.2.2.1 c.2.2.2.2.2.2.1 c.2.2.2.2.2.2.2 x.2
def impl_Travel_8_sp (n : Nat) : LSpec T := mkSpec T ⟨[((.reg 12), 3000000, 3), ((.reg 14), 3000001, 119)], [2, 5, 6, 8, 9, 12, 14, 54, 55, 56], [40, 48, 64, 72, 3000000, 3000001]⟩ impl_Travel_8_sv impl_Travel_8_so (Int × List SLeg × Int × List SLeg × Int × Int × Int × List Int) (Int × List (List Bool)) impl_Travel_8_emb impl_Travel_8_prj (impl_Travel_8_b n)
noncomputable def impl_Travel_8_c : Code := ((loopCodes impl_Travel_code)[0]?).getD .skip
def impl_Travel_13_sv : List Sv := [.one (.ptr 40 0 0), .one (.ptr 48 0 0), .one (.ptr 64 0 0), .one (.ptr 72 0 0), .one (.own 3000001 119 false), .one (.int .i64)]
def impl_Travel_13_so : List So := [.var [.arr 41], .var [.int .i64], .var [.int .i64], .var [.int .i64], .arr 119 false]
def impl_Travel_13_emb (c : List SLeg × Int × Int × Int) (x : Int × List (List Bool)) : EVs T impl_Travel_13_sv × EOs T impl_Travel_13_so := (((), (), (), (), (), x.1, ()), ((c.1, ()), (c.2.1, ()), (c.2.2.1, ()), (c.2.2.2, ()), x.2, ()))
def impl_Travel_13_prj (y : EVs T impl_Travel_13_sv × EOs T impl_Travel_13_so) : (List SLeg × Int × Int × Int) × (Int × List (List Bool)) := ((y.2.1.1, y.2.2.1.1, y.2.2.2.1.1, y.2.2.2.2.1.1), (y.1.2.2.2.2.2.1, y.2.2.2.2.2.1))
def impl_Travel_13_b (n : Nat) {R : Type} (K : Ex → Sm.St T → Option R) (c : List SLeg × Int × Int × Int) (x : Int × List (List Bool)) (J : (Int × List (List Bool)) → Option R) : Option R :=
  impl_Travel_L13 n (K (.exit 2) (stOf (T := T) [] [] [] [] () ())) (fun (y0 : Bool) (y1 : List Int) => K .ret (stOf (T := T) [10, 11] [3000003] [.one (.own 3000003 3 false), .one (.bool)] [.arr 3 false] ((), y0, ()) (y1, ()))) (fun z0 z1 => J (z0, z1)) x.1 c.1 c.2.1 c.2.2.1 c.2.2.2 x.2
def impl_Travel_13_sp (n : Nat) : LSpec T := mkSpec T ⟨[((.reg 14), 3000001, 119)], [5, 6, 8, 9, 14, 17], [40, 48, 64, 72, 3000001]⟩ impl_Travel_13_sv impl_Travel_13_so (List SLeg × Int × Int × Int) (Int × List (List Bool)) impl_Travel_13_emb impl_Travel_13_prj (impl_Travel_13_b n)
noncomputable def impl_Travel_13_c : Code := ((loopCodes impl_Travel_code)[1]?).getD .skip
def impl_Travel_18_sv : List Sv := [.one (.ptr 40 0 0), .one (.ptr 48 0 0), .one (.ptr 64 0 0), .one (.ptr 72 0 0), .one (.own 3000001 119 false), .one (.int .i64), .one (.ptr 144 0 0), .one (.fn 77 [144, 40, 48, 64, 72]), .one (.int .i64)]
def impl_Travel_18_so : List So := [.var [.arr 41], .var [.int .i64], .var [.int .i64], .var [.int .i64], .arr 119 false, .var [.own 3000002 3 false], .arr 3 false]
def impl_Travel_18_emb (c : Int × List SLeg × Int × Int × Int × List (List Bool)) (x : Int × List Int) : EVs T impl_Travel_18_sv × EOs T impl_Travel_18_so := (((), (), (), (), (), c.1, (), (), x.1, ()), ((c.2.1, ()), (c.2.2.1, ()), (c.2.2.2.1, ()), (c.2.2.2.2.1, ()), c.2.2.2.2.2, ((), ()), x.2, ()))
def impl_Travel_18_prj (y : EVs T impl_Travel_18_sv × EOs T impl_Travel_18_so) : (Int × List SLeg × Int × Int × Int × List (List Bool)) × (Int × List Int) := ((y.1.2.2.2.2.2.1, y.2.1.1, y.2.2.1.1, y.2.2.2.1.1, y.2.2.2.2.1.1, y.2.2.2.2.2.1), (y.1.2.2.2.2.2.2.2.2.1, y.2.2.2.2.2.2.2.1))
def impl_Travel_18_b (n : Nat) {R : Type} (K : Ex → Sm.St T → Option R) (c : Int × List SLeg × Int × Int × Int × List (List Bool)) (x : Int × List Int) (J : (Int × List Int) → Option R) : Option R :=
  impl_Travel_L18 n (fun (y6 : List Int) => K (.exit 4) (stOf (T := T) [5, 6, 8, 9, 14, 17, 18] [40, 48, 64, 72, 3000001, 144, 3000002] [.one (.ptr 40 0 0), .one (.ptr 48 0 0), .one (.ptr 64 0 0), .one (.ptr 72 0 0), .one (.own 3000001 119 false), .one (.int .i64), .one (.ptr 144 0 0)] [.var [.arr 41], .var [.int .i64], .var [.int .i64], .var [.int .i64], .arr 119 false, .var [.own 3000002 3 false], .arr 3 false] ((), (), (), (), (), c.1, (), ()) ((c.2.1, ()), (c.2.2.1, ()), (c.2.2.2.1, ()), (c.2.2.2.2.1, ()), c.2.2.2.2.2, ((), ()), y6, ()))) (fun z0 z1 => J (z0, z1)) c.1 x.1 c.2.1 c.2.2.1 c.2.2.2.1 c.2.2.2.2.1 c.2.2.2.2.2 x.2
def impl_Travel_18_sp (n : Nat) : LSpec T := mkSpec T ⟨[((.reg 14), 3000001, 119), ((.cell 144 0), 3000002, 3)], [5, 6, 8, 9, 14, 17, 18, 19, 20], [40, 48, 64, 72, 3000001, 144, 3000002]⟩ impl_Travel_18_sv impl_Travel_18_so (Int × List SLeg × Int × Int × Int × List (List Bool)) (Int × List Int) impl_Travel_18_emb impl_Travel_18_prj (impl_Travel_18_b n)
noncomputable def impl_Travel_18_c : Code := ((loopCodes impl_Travel_code)[2]?).getD .skip
def impl_Travel_21_sv : List Sv := [.one (.ptr 40 0 0), .one (.ptr 48 0 0), .one (.ptr 64 0 0), .one (.ptr 72 0 0), .one (.own 3000001 119 false), .one (.int .i64), .one (.ptr 144 0 0), .one (.fn 77 [144, 40, 48, 64, 72]), .one (.int .i64), .one (.int .i64)]
def impl_Travel_21_so : List So := [.var [.arr 41], .var [.int .i64], .var [.int .i64], .var [.int .i64], .arr 119 false, .var [.own 3000002 3 false], .arr 3 false]
def impl_Travel_21_emb (c : Int × Int × List SLeg × Int × Int × Int × List (List Bool) × List Int) (x : Int) : EVs T impl_Travel_21_sv × EOs T impl_Travel_21_so := (((), (), (), (), (), c.1, (), (), c.2.1, x, ()), ((c.2.2.1, ()), (c.2.2.2.1, ()), (c.2.2.2.2.1, ()), (c.2.2.2.2.2.1, ()), c.2.2.2.2.2.2.1, ((), ()), c.2.2.2.2.2.2.2, ()))
def impl_Travel_21_prj (y : EVs T impl_Travel_21_sv × EOs T impl_Travel_21_so) : (Int × Int × List SLeg × Int × Int × Int × List (List Bool) × List Int) × Int := ((y.1.2.2.2.2.2.1, y.1.2.2.2.2.2.2.2.2.1, y.2.1.1, y.2.2.1.1, y.2.2.2.1.1, y.2.2.2.2.1.1, y.2.2.2.2.2.1, y.2.2.2.2.2.2.2.1), (y.1.2.2.2.2.2.2.2.2.2.1))
def impl_Travel_21_b (n : Nat) {R : Type} (K : Ex → Sm.St T → Option R) (c : Int × Int × List SLeg × Int × Int × Int × List (List Bool) × List Int) (x : Int) (J : Int → Option R) : Option R :=
  impl_Travel_L21 n (fun (y2 : Int) => K (.exit 6) (stOf (T := T) [5, 6, 8, 9, 14, 17, 18, 19, 20, 21] [40, 48, 64, 72, 3000001, 144, 3000002] [.one (.ptr 40 0 0), .one (.ptr 48 0 0), .one (.ptr 64 0 0), .one (.ptr 72 0 0), .one (.own 3000001 119 false), .one (.int .i64), .one (.ptr 144 0 0), .one (.fn 77 [144, 40, 48, 64, 72]), .one (.int .i64), .one (.int .i64)] [.var [.arr 41], .var [.int .i64], .var [.int .i64], .var [.int .i64], .arr 119 false, .var [.own 3000002 3 false], .arr 3 false] ((), (), (), (), (), c.1, (), (), c.2.1, y2, ()) ((c.2.2.1, ()), (c.2.2.2.1, ()), (c.2.2.2.2.1, ()), (c.2.2.2.2.2.1, ()), c.2.2.2.2.2.2.1, ((), ()), c.2.2.2.2.2.2.2, ()))) J c.1 c.2.1 x c.2.2.1 c.2.2.2.1 c.2.2.2.2.1 c.2.2.2.2.2.1 c.2.2.2.2.2.2.1 c.2.2.2.2.2.2.2
def impl_Travel_21_sp (n : Nat) : LSpec T := mkSpec T ⟨[((.reg 14), 3000001, 119), ((.cell 144 0), 3000002, 3)], [5, 6, 8, 9, 14, 17, 18, 19, 20, 21], [40, 48, 64, 72, 3000001, 144, 3000002]⟩ impl_Travel_21_sv impl_Travel_21_so (Int × Int × List SLeg × Int × Int × Int × List (List Bool) × List Int) (Int) impl_Travel_21_emb impl_Travel_21_prj (impl_Travel_21_b n)
noncomputable def impl_Travel_21_c : Code := ((loopCodes impl_Travel_code)[3]?).getD .skip
def impl_Travel_29_sv : List Sv := [.one (.ptr 40 0 0), .one (.ptr 48 0 0), .one (.ptr 64 0 0), .one (.ptr 72 0 0), .one (.own 3000001 119 false), .one (.int .i64), .one (.own 3000004 4 false), .one (.int .i64), .one (.int .i64)]
def impl_Travel_29_so : List So := [.var [.arr 41], .var [.int .i64], .var [.int .i64], .var [.int .i64], .arr 119 false, .arr 4 false]
def impl_Travel_29_emb (c : Int × Int × List SLeg × Int × Int × Int × List (List Bool)) (x : Int × List Bool) : EVs T impl_Travel_29_sv × EOs T impl_Travel_29_so := (((), (), (), (), (), c.1, (), c.2.1, x.1, ()), ((c.2.2.1, ()), (c.2.2.2.1, ()), (c.2.2.2.2.1, ()), (c.2.2.2.2.2.1, ()), c.2.2.2.2.2.2, x.2, ()))
def impl_Travel_29_prj (y : EVs T impl_Travel_29_sv × EOs T impl_Travel_29_so) : (Int × Int × List SLeg × Int × Int × Int × List (List Bool)) × (Int × List Bool) := ((y.1.2.2.2.2.2.1, y.1.2.2.2.2.2.2.2.1, y.2.1.1, y.2.2.1.1, y.2.2.2.1.1, y.2.2.2.2.1.1, y.2.2.2.2.2.1), (y.1.2.2.2.2.2.2.2.2.1, y.2.2.2.2.2.2.1))
def impl_Travel_29_b (n : Nat) {R : Type} (K : Ex → Sm.St T → Option R) (c : Int × Int × List SLeg × Int × Int × Int × List (List Bool)) (x : Int × List Bool) (J : (Int × List Bool) → Option R) : Option R :=
  impl_Travel_L29 n (fun (y6 : List Bool) => K (.exit 8) (stOf (T := T) [5, 6, 8, 9, 14, 17, 22] [40, 48, 64, 72, 3000001, 3000004] [.one (.ptr 40 0 0), .one (.ptr 48 0 0), .one (.ptr 64 0 0), .one (.ptr 72 0 0), .one (.own 3000001 119 false), .one (.int .i64), .one (.own 3000004 4 false)] [.var [.arr 41], .var [.int .i64], .var [.int .i64], .var [.int .i64], .arr 119 false, .arr 4 false] ((), (), (), (), (), c.1, (), ()) ((c.2.2.1, ()), (c.2.2.2.1, ()), (c.2.2.2.2.1, ()), (c.2.2.2.2.2.1, ()), c.2.2.2.2.2.2, y6, ()))) (fun z0 z1 => J (z0, z1)) c.1 c.2.1 x.1 c.2.2.1 c.2.2.2.1 c.2.2.2.2.1 c.2.2.2.2.2.1 c.2.2.2.2.2.2 x.2
def impl_Travel_29_sp (n : Nat) : LSpec T := mkSpec T ⟨[((.reg 14), 3000001, 119), ((.reg 22), 3000004, 4)], [5, 6, 8, 9, 14, 17, 22, 130, 131], [40, 48, 64, 72, 3000001, 3000004]⟩ impl_Travel_29_sv impl_Travel_29_so (Int × Int × List SLeg × Int × Int × Int × List (List Bool)) (Int × List Bool) impl_Travel_29_emb impl_Travel_29_prj (impl_Travel_29_b n)
noncomputable def impl_Travel_29_c : Code := ((loopCodes impl_Travel_code)[4]?).getD .skip
def impl_Travel_32_sv : List Sv := [.one (.ptr 40 0 0), .one (.ptr 48 0 0), .one (.ptr 64 0 0), .one (.ptr 72 0 0), .one (.own 3000001 119 false), .one (.int .i64), .one (.own 3000004 4 false), .one (.int .i64), .one (.int .i64), .one (.int .i64), .one (.int .i64), .one (.int .i64)]
def impl_Travel_32_so : List So := [.var [.arr 41], .var [.int .i64], .var [.int .i64], .var [.int .i64], .arr 119 false, .arr 4 false]
def impl_Travel_32_emb (c : Int × Int × Int × Int × Int × List SLeg × Int × Int × Int × List (List Bool)) (x : Int × List Bool) : EVs T impl_Travel_32_sv × EOs T impl_Travel_32_so := (((), (), (), (), (), c.1, (), c.2.1, c.2.2.1, c.2.2.2.1, c.2.2.2.2.1, x.1, ()), ((c.2.2.2.2.2.1, ()), (c.2.2.2.2.2.2.1, ()), (c.2.2.2.2.2.2.2.1, ()), (c.2.2.2.2.2.2.2.2.1, ()), c.2.2.2.2.2.2.2.2.2, x.2, ()))
def impl_Travel_32_prj (y : EVs T impl_Travel_32_sv × EOs T impl_Travel_32_so) : (Int × Int × Int × Int × Int × List SLeg × Int × Int × Int × List (List Bool)) × (Int × List Bool) := ((y.1.2.2.2.2.2.1, y.1.2.2.2.2.2.2.2.1, y.1.2.2.2.2.2.2.2.2.1, y.1.2.2.2.2.2.2.2.2.2.1, y.1.2.2.2.2.2.2.2.2.2.2.1, y.2.1.1, y.2.2.1.1, y.2.2.2.1.1, y.2.2.2.2.1.1, y.2.2.2.2.2.1), (y.1.2.2.2.2.2.2.2.2.2.2.2.1, y.2.2.2.2.2.2.1))
def impl_Travel_32_b (n : Nat) {R : Type} (K : Ex → Sm.St T → Option R) (c : Int × Int × Int × Int × Int × List SLeg × Int × Int × Int × List (List Bool)) (x : Int × List Bool) (J : (Int × List Bool) → Option R) : Option R :=
  impl_Travel_L32 n (fun (y8 : List Bool) => K (.exit 10) (stOf (T := T) [5, 6, 8, 9, 14, 17, 22, 130, 131] [40, 48, 64, 72, 3000001, 3000004] [.one (.ptr 40 0 0), .one (.ptr 48 0 0), .one (.ptr 64 0 0), .one (.ptr 72 0 0), .one (.own 3000001 119 false), .one (.int .i64), .one (.own 3000004 4 false), .one (.int .i64), .one (.int .i64)] [.var [.arr 41], .var [.int .i64], .var [.int .i64], .var [.int .i64], .arr 119 false, .arr 4 false] ((), (), (), (), (), c.1, (), c.2.2.1, c.2.2.2.1, ()) ((c.2.2.2.2.2.1, ()), (c.2.2.2.2.2.2.1, ()), (c.2.2.2.2.2.2.2.1, ()), (c.2.2.2.2.2.2.2.2.1, ()), c.2.2.2.2.2.2.2.2.2, y8, ()))) (fun z0 z1 => J (z0, z1)) c.1 c.2.1 c.2.2.1 c.2.2.2.1 c.2.2.2.2.1 x.1 c.2.2.2.2.2.1 c.2.2.2.2.2.2.1 c.2.2.2.2.2.2.2.1 c.2.2.2.2.2.2.2.2.1 c.2.2.2.2.2.2.2.2.2 x.2
def impl_Travel_32_sp (n : Nat) : LSpec T := mkSpec T ⟨[((.reg 14), 3000001, 119), ((.reg 22), 3000004, 4)], [5, 6, 8, 9, 14, 17, 22, 23, 130, 131, 135, 136], [40, 48, 64, 72, 3000001, 3000004]⟩ impl_Travel_32_sv impl_Travel_32_so (Int × Int × Int × Int × Int × List SLeg × Int × Int × Int × List (List Bool)) (Int × List Bool) impl_Travel_32_emb impl_Travel_32_prj (impl_Travel_32_b n)
noncomputable def impl_Travel_32_c : Code := ((loopCodes impl_Travel_code)[5]?).getD .skip
def impl_Travel_ann : Ann := fun id => bif Nat.beq id 3000008 then some ⟨[((.reg 14), 3000001, 119)], [5, 6, 8, 9, 14], [40, 48, 64, 72, 3000001]⟩ else bif Nat.beq id 5000013 then some ⟨[], [], []⟩ else bif Nat.beq id 2000013 then some ⟨[((.reg 10), 3000003, 3)], [10, 11], [3000003]⟩ else bif Nat.beq id 7000018 then some ⟨[((.reg 14), 3000001, 119), ((.cell 144 0), 3000002, 3)], [5, 6, 8, 9, 14, 17, 18], [40, 48, 64, 72, 3000001, 144, 3000002]⟩ else bif Nat.beq id 9000021 then some ⟨[((.reg 14), 3000001, 119), ((.cell 144 0), 3000002, 3)], [5, 6, 8, 9, 14, 17, 18, 19, 20, 21], [40, 48, 64, 72, 3000001, 144, 3000002]⟩ else bif Nat.beq id 11000029 then some ⟨[((.reg 14), 3000001, 119), ((.reg 22), 3000004, 4)], [5, 6, 8, 9, 14, 17, 22], [40, 48, 64, 72, 3000001, 3000004]⟩ else bif Nat.beq id 13000032 then some ⟨[((.reg 14), 3000001, 119), ((.reg 22), 3000004, 4)], [5, 6, 8, 9, 14, 17, 22, 130, 131], [40, 48, 64, 72, 3000001, 3000004]⟩ else none
def impl_Travel_Ls (n : Nat) : Nat → Option (LSpec T) := fun id => bif Nat.beq id 8 then some (impl_Travel_8_sp n) else bif Nat.beq id 13 then some (impl_Travel_13_sp n) else bif Nat.beq id 18 then some (impl_Travel_18_sp n) else bif Nat.beq id 21 then some (impl_Travel_21_sp n) else bif Nat.beq id 29 then some (impl_Travel_29_sp n) else bif Nat.beq id 32 then some (impl_Travel_32_sp n) else none
theorem impl_Travel_8_le (n : Nat) : LoopEq (T := T) (Phi n 20) (impl_Travel_Ls n) impl_Travel_ann n impl_Travel_8_c (impl_Travel_8_sp n) := ⟨mkSpec_dec (fun y => rfl), fun c x => by kernel_rfl, fun K J c x => by kernel_rfl⟩
theorem impl_Travel_13_le (n : Nat) : LoopEq (T := T) (Phi n 20) (impl_Travel_Ls n) impl_Travel_ann n impl_Travel_13_c (impl_Travel_13_sp n) := ⟨mkSpec_dec (fun y => rfl), fun c x => by kernel_rfl, fun K J c x => by kernel_rfl⟩
theorem impl_Travel_18_le (n : Nat) : LoopEq (T := T) (Phi n 20) (impl_Travel_Ls n) impl_Travel_ann n impl_Travel_18_c (impl_Travel_18_sp n) := ⟨mkSpec_dec (fun y => rfl), fun c x => by kernel_rfl, fun K J c x => by kernel_rfl⟩
theorem impl_Travel_21_le (n : Nat) : LoopEq (T := T) (Phi n 20) (impl_Travel_Ls n) impl_Travel_ann n impl_Travel_21_c (impl_Travel_21_sp n) := ⟨mkSpec_dec (fun y => rfl), fun c x => by kernel_rfl, fun K J c x => by kernel_rfl⟩
theorem impl_Travel_29_le (n : Nat) : LoopEq (T := T) (Phi n 20) (impl_Travel_Ls n) impl_Travel_ann n impl_Travel_29_c (impl_Travel_29_sp n) := ⟨mkSpec_dec (fun y => rfl), fun c x => by kernel_rfl, fun K J c x => by kernel_rfl⟩
theorem impl_Travel_32_le (n : Nat) : LoopEq (T := T) (Phi n 20) (impl_Travel_Ls n) impl_Travel_ann n impl_Travel_32_c (impl_Travel_32_sp n) := ⟨mkSpec_dec (fun y => rfl), fun c x => by kernel_rfl, fun K J c x => by kernel_rfl⟩
theorem impl_Travel_tie (n : Nat) (legs0 : List SLeg) (from1 : Int) (to2 : Int) (at3 : Int) (change4 : Int) : evF (T := T) (Phi n 20) (impl_Travel_Ls n) impl_Travel_ann n Try.f15 (sg 15) [vA T 27 legs0, vA T 3 from1, vA T 3 to2, vA T 3 at3, vA T 3 change4] impl_Travel_dec = impl_Travel n legs0 from1 to2 at3 change4 := by kernel_rfl
theorem impl_Travel_lo (n : Nat) : LoopsOk (T := T) (Phi n 20) (impl_Travel_Ls n) impl_Travel_ann n impl_Travel_code := loopsOk_all (cs := [impl_Travel_8_c, impl_Travel_13_c, impl_Travel_18_c, impl_Travel_21_c, impl_Travel_29_c, impl_Travel_32_c]) (by kernel_rfl) ⟨⟨_, by kernel_rfl, impl_Travel_8_le n⟩, ⟨_, by kernel_rfl, impl_Travel_13_le n⟩, ⟨_, by kernel_rfl, impl_Travel_18_le n⟩, ⟨_, by kernel_rfl, impl_Travel_21_le n⟩, ⟨_, by kernel_rfl, impl_Travel_29_le n⟩, ⟨_, by kernel_rfl, impl_Travel_32_le n⟩, trivial⟩
theorem impl_Travel_ok (n : Nat) : EntOk Try.prog (ents n) (impl_Travel_ent n) := by
  intro hs ar y hg h
  replace h : impl_Travel_D n ar = some y := h
  unfold impl_Travel_D at h
  replace h := ocons_some h
  obtain ⟨a0, r0, rfl, h⟩ := h
  replace h := ocons_some h
  obtain ⟨a1, r1, rfl, h⟩ := h
  replace h := ocons_some h
  obtain ⟨a2, r2, rfl, h⟩ := h
  replace h := ocons_some h
  obtain ⟨a3, r3, rfl, h⟩ := h
  replace h := ocons_some h
  obtain ⟨a4, r4, rfl, h⟩ := h
  replace h := onil_some h
  obtain ⟨rfl, h⟩ := h
  obtain ⟨legs0, qh0, h⟩ := obind_some h
  obtain ⟨from1, qh1, h⟩ := obind_some h
  obtain ⟨to2, qh2, h⟩ := obind_some h
  obtain ⟨at3, qh3, h⟩ := obind_some h
  obtain ⟨change4, qh4, h⟩ := obind_some h
  rw [argV_eq ok qh0, argV_eq ok qh1, argV_eq ok qh2, argV_eq ok qh3, argV_eq ok qh4]
  exact call_of (phiE_nat _ _) hs ok mixed Try.func15 (c := impl_Travel_code) (by kernel_rfl) (impl_Travel_lo n) (by kernel_rfl) (by kernel_rfl) (by kernel_rfl) impl_Travel_de ((impl_Travel_tie n legs0 from1 to2 at3 change4).trans h)
noncomputable def laws_FnTravel_code : Code := match Try.f4.body with | some c => c | none => .skip
def laws_FnTravel_12_sv : List Sv := [.one (.own 3000000 41 false), .one (.int .i64), .one (.int .i64), .one (.int .i64), .one (.int .i64), .one (.own 3000001 3 false), .one (.own 3000002 3 false), .one (.int .i64)]
def laws_FnTravel_12_so : List So := [.arr 41 false, .arr 3 false, .arr 3 false]
def laws_FnTravel_12_emb (c : Int × Int × Int × Int × List SLeg × List Int × List Int) (x : Int) : EVs T laws_FnTravel_12_sv × EOs T laws_FnTravel_12_so := (((), c.1, c.2.1, c.2.2.1, c.2.2.2.1, (), (), x, ()), (c.2.2.2.2.1, c.2.2.2.2.2.1, c.2.2.2.2.2.2, ()))
def laws_FnTravel_12_prj (y : EVs T laws_FnTravel_12_sv × EOs T laws_FnTravel_12_so) : (Int × Int × Int × Int × List SLeg × List Int × List Int) × Int := ((y.1.2.1, y.1.2.2.1, y.1.2.2.2.1, y.1.2.2.2.2.1, y.2.1, y.2.2.1, y.2.2.2.1), (y.1.2.2.2.2.2.2.2.1))
def laws_FnTravel_12_b (n : Nat) {R : Type} (K : Ex → Sm.St T → Option R) (c : Int × Int × Int × Int × List SLeg × List Int × List Int) (x : Int) (J : Int → Option R) : Option R :=
  laws_FnTravel_L12 n (K (.exit 0) (stOf (T := T) [3, 4, 5, 6, 7, 8] [3000000, 3000001] [.one (.own 3000000 41 false), .one (.int .i64), .one (.int .i64), .one (.int .i64), .one (.int .i64), .one (.own 3000001 3 false)] [.arr 41 false, .arr 3 false] ((), c.1, c.2.1, c.2.2.1, c.2.2.2.1, (), ()) (c.2.2.2.2.1, c.2.2.2.2.2.1, ()))) (fun (y0 : Bool) => K .ret (stOf (T := T) [2] [] [.one (.bool)] [] (y0, ()) ())) J c.1 c.2.1 c.2.2.1 c.2.2.2.1 x c.2.2.2.2.1 c.2.2.2.2.2.1 c.2.2.2.2.2.2
def laws_FnTravel_12_sp (n : Nat) : LSpec T := mkSpec T ⟨[((.reg 3), 3000000, 41), ((.reg 8), 3000001, 3), ((.reg 10), 3000002, 3)], [3, 4, 5, 6, 7, 8, 10, 12], [3000000, 3000001, 3000002]⟩ laws_FnTravel_12_sv laws_FnTravel_12_so (Int × Int × Int × Int × List SLeg × List Int × List Int) (Int) laws_FnTravel_12_emb laws_FnTravel_12_prj (laws_FnTravel_12_b n)
noncomputable def laws_FnTravel_12_c : Code := ((loopCodes laws_FnTravel_code)[0]?).getD .skip
def laws_FnTravel_21_sv : List Sv := [.one (.own 3000000 41 false), .one (.int .i64), .one (.int .i64), .one (.own 3000001 3 false), .one (.own 3000003 3 false), .one (.int .i64), .one (.int .i64), .one (.int .i64), .one (.int .i64)]
def laws_FnTravel_21_so : List So := [.arr 41 false, .arr 3 false, .arr 3 false]
def laws_FnTravel_21_emb (c : Int × Int × List SLeg × List Int × List Int) (x : Int × Int × Int × Int) : EVs T laws_FnTravel_21_sv × EOs T laws_FnTravel_21_so := (((), c.1, c.2.1, (), (), x.1, x.2.1, x.2.2.1, x.2.2.2, ()), (c.2.2.1, c.2.2.2.1, c.2.2.2.2, ()))
def laws_FnTravel_21_prj (y : EVs T laws_FnTravel_21_sv × EOs T laws_FnTravel_21_so) : (Int × Int × List SLeg × List Int × List Int) × (Int × Int × Int × Int) := ((y.1.2.1, y.1.2.2.1, y.2.1, y.2.2.1, y.2.2.2.1), (y.1.2.2.2.2.2.1, y.1.2.2.2.2.2.2.1, y.1.2.2.2.2.2.2.2.1, y.1.2.2.2.2.2.2.2.2.1))
def laws_FnTravel_21_b (n : Nat) {R : Type} (K : Ex → Sm.St T → Option R) (c : Int × Int × List SLeg × List Int × List Int) (x : Int × Int × Int × Int) (J : (Int × Int × Int × Int) → Option R) : Option R :=
  laws_FnTravel_L21 n (fun (y1 : Int) (y2 : Int) => K (.exit 2) (stOf (T := T) [5, 8, 15, 16] [3000001] [.one (.int .i64), .one (.own 3000001 3 false), .one (.int .i64), .one (.int .i64)] [.arr 3 false] (c.1, (), y1, y2, ()) (c.2.2.2.1, ()))) (fun (y0 : Bool) => K .ret (stOf (T := T) [2] [] [.one (.bool)] [] (y0, ()) ())) (fun z0 z1 z2 z3 => J (z0, z1, z2, z3)) c.1 c.2.1 x.1 x.2.1 x.2.2.1 x.2.2.2 c.2.2.1 c.2.2.2.1 c.2.2.2.2
def laws_FnTravel_21_sp (n : Nat) : LSpec T := mkSpec T ⟨[((.reg 3), 3000000, 41), ((.reg 8), 3000001, 3), ((.reg 13), 3000003, 3)], [3, 5, 7, 8, 13, 15, 16, 17, 18], [3000000, 3000001, 3000003]⟩ laws_FnTravel_21_sv laws_FnTravel_21_so (Int × Int × List SLeg × List Int × List Int) (Int × Int × Int × Int) laws_FnTravel_21_emb laws_FnTravel_21_prj (laws_FnTravel_21_b n)
noncomputable def laws_FnTravel_21_c : Code := ((loopCodes laws_FnTravel_code)[1]?).getD .skip
def laws_FnTravel_ann : Ann := fun id => bif Nat.beq id 3000012 then some ⟨[((.reg 3), 3000000, 41), ((.reg 8), 3000001, 3)], [3, 4, 5, 6, 7, 8], [3000000, 3000001]⟩ else bif Nat.beq id 2000012 then some ⟨[], [2], []⟩ else bif Nat.beq id 5000021 then some ⟨[((.reg 8), 3000001, 3)], [5, 8, 15, 16], [3000001]⟩ else bif Nat.beq id 2000021 then some ⟨[], [2], []⟩ else none
def laws_FnTravel_Ls (n : Nat) : Nat → Option (LSpec T) := fun id => bif Nat.beq id 12 then some (laws_FnTravel_12_sp n) else bif Nat.beq id 21 then some (laws_FnTravel_21_sp n) else none
theorem laws_FnTravel_12_le (n : Nat) : LoopEq (T := T) (Phi n 21) (laws_FnTravel_Ls n) laws_FnTravel_ann n laws_FnTravel_12_c (laws_FnTravel_12_sp n) := ⟨mkSpec_dec (fun y => rfl), fun c x => by kernel_rfl, fun K J c x => by kernel_rfl⟩
theorem laws_FnTravel_21_le (n : Nat) : LoopEq (T := T) (Phi n 21) (laws_FnTravel_Ls n) laws_FnTravel_ann n laws_FnTravel_21_c (laws_FnTravel_21_sp n) := ⟨mkSpec_dec (fun y => rfl), fun c x => by kernel_rfl, fun K J c x => by kernel_rfl⟩
theorem laws_FnTravel_tie (n : Nat) (code0 : List Int) : evF (T := T) (Phi n 21) (laws_FnTravel_Ls n) laws_FnTravel_ann n Try.f4 (sg 4) [vA T 34 code0] laws_FnTravel_dec = laws_FnTravel n code0 := by kernel_rfl
theorem laws_FnTravel_lo (n : Nat) : LoopsOk (T := T) (Phi n 21) (laws_FnTravel_Ls n) laws_FnTravel_ann n laws_FnTravel_code := loopsOk_all (cs := [laws_FnTravel_12_c, laws_FnTravel_21_c]) (by kernel_rfl) ⟨⟨_, by kernel_rfl, laws_FnTravel_12_le n⟩, ⟨_, by kernel_rfl, laws_FnTravel_21_le n⟩, trivial⟩
theorem laws_FnTravel_ok (n : Nat) : EntOk Try.prog (ents n) (laws_FnTravel_ent n) := by
  intro hs ar y hg h
  replace h : laws_FnTravel_D n ar = some y := h
  unfold laws_FnTravel_D at h
  replace h := ocons_some h
  obtain ⟨a0, r0, rfl, h⟩ := h
  replace h := onil_some h
  obtain ⟨rfl, h⟩ := h
  obtain ⟨code0, qh0, h⟩ := obind_some h
  rw [argV_eq ok qh0]
  exact call_of (phiE_nat _ _) hs ok mixed Try.func4 (c := laws_FnTravel_code) (by kernel_rfl) (laws_FnTravel_lo n) (by kernel_rfl) (by kernel_rfl) (by kernel_rfl) laws_FnTravel_de ((laws_FnTravel_tie n code0).trans h)
theorem entsOk (n : Nat) : EntsOk Try.prog (ents n) (ents n) := ⟨laws_big_ok n, spec_l1New_ok n, spec_l1Byte_ok n, spec_l1Below_ok n, spec_l22Draw_ok n, spec_DrawLegs_ok n, laws_at_ok n, impl_in_ok n, impl_linePort_ok n, impl_minuteOk_ok n, impl_LegsOk_ok n, impl_lineRight_ok n, cmp_isNaN_int_ok n, cmp_Compare_int_ok n, impl_Earliest_1_ok n, slices_SortFunc_int_int__impl_Earliest_1_ok n, impl_changes_ok n, impl_Earliest_ok n, impl_Travel_1_ok n, impl_own_int_ok n, impl_Travel_ok n, laws_FnTravel_ok n, trivial⟩
theorem sem (n i : Nat) : SemOk (Phi n i) (CallOk Try.prog T) := phiE_ok (entsOk n) i
end Go.Sm.E4
