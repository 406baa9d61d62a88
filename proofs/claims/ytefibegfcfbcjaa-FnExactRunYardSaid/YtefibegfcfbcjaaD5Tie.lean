import Derived.Test.YtefibegfcfbcjaaD5Tb
import Derived.KernelRfl
/- Each function's code computes what the plain function computes. -/
set_option linter.unusedSimpArgs false
set_option linter.deprecated false
set_option linter.unusedSectionVars false
set_option linter.unusedVariables false
set_option maxRecDepth 100000
open Go Go.Proofs
noncomputable section
namespace Go.Sm.D5
/-- By recursors, and of a greater height than all of the functions: the kernel takes these apart first. -/
def obind {α β : Type} (o : Option α) (f : α → Option β) : Option β := let _ := @laws_FnExactRunYard; Option.rec (motive := fun _ => Option β) none (fun a => f a) o
theorem obind_some {α β : Type} {o : Option α} {f : α → Option β} {y : β} (h : obind o f = some y) : ∃ a, o = some a ∧ f a = some y := by
  cases o with
  | none => cases h
  | some a => exact ⟨a, rfl, h⟩
def ocons {β : Type} (l : List (A T)) (f : A T → List (A T) → Option β) : Option β := let _ := @laws_FnExactRunYard; List.rec (motive := fun _ => Option β) none (fun a r _ => f a r) l
theorem ocons_some {β : Type} {l : List (A T)} {f : A T → List (A T) → Option β} {y : β} (h : ocons l f = some y) : ∃ a r, l = a :: r ∧ f a r = some y := by
  cases l with
  | nil => cases h
  | cons a r => exact ⟨a, r, rfl, h⟩
def onil {β : Type} (l : List (A T)) (x : Option β) : Option β := let _ := @laws_FnExactRunYard; List.rec (motive := fun _ => Option β) x (fun _ _ _ => none) l
theorem onil_some {β : Type} {l : List (A T)} {x : Option β} {y : β} (h : onil l x = some y) : l = [] ∧ x = some y := by
  cases l with
  | nil => exact ⟨rfl, h⟩
  | cons a r => cases h
def laws_szIntS_dec (res : Res T) : Option Int := match res.rets, res.outs with
  | [a0], [] => (retV (T := T) 3 a0).bind fun r0 => some (r0)
  | _, _ => none
def laws_szIntS_enc (y : Int) : Res T := ⟨[vR T 3 y], []⟩
theorem laws_szIntS_de (res : Res T) (y : Int) (h : laws_szIntS_dec res = some y) : res = laws_szIntS_enc y := by
  obtain ⟨rets, outs⟩ := res
  unfold laws_szIntS_dec at h
  dsimp only at h
  split at h
  · obtain ⟨r0, h0, h⟩ := Option.bind_eq_some_iff.1 h
    cases h
    rw [retV_eq ok h0]
    rfl
  · cases h
def laws_szIntSS_dec (res : Res T) : Option Int := match res.rets, res.outs with
  | [a0], [] => (retV (T := T) 3 a0).bind fun r0 => some (r0)
  | _, _ => none
def laws_szIntSS_enc (y : Int) : Res T := ⟨[vR T 3 y], []⟩
theorem laws_szIntSS_de (res : Res T) (y : Int) (h : laws_szIntSS_dec res = some y) : res = laws_szIntSS_enc y := by
  obtain ⟨rets, outs⟩ := res
  unfold laws_szIntSS_dec at h
  dsimp only at h
  split at h
  · obtain ⟨r0, h0, h⟩ := Option.bind_eq_some_iff.1 h
    cases h
    rw [retV_eq ok h0]
    rfl
  · cases h
def laws_szYard_dec (res : Res T) : Option Int := match res.rets, res.outs with
  | [a0], [] => (retV (T := T) 3 a0).bind fun r0 => some (r0)
  | _, _ => none
def laws_szYard_enc (y : Int) : Res T := ⟨[vR T 3 y], []⟩
theorem laws_szYard_de (res : Res T) (y : Int) (h : laws_szYard_dec res = some y) : res = laws_szYard_enc y := by
  obtain ⟨rets, outs⟩ := res
  unfold laws_szYard_dec at h
  dsimp only at h
  split at h
  · obtain ⟨r0, h0, h⟩ := Option.bind_eq_some_iff.1 h
    cases h
    rw [retV_eq ok h0]
    rfl
  · cases h
def laws_szYardOpS_dec (res : Res T) : Option Int := match res.rets, res.outs with
  | [a0], [] => (retV (T := T) 3 a0).bind fun r0 => some (r0)
  | _, _ => none
def laws_szYardOpS_enc (y : Int) : Res T := ⟨[vR T 3 y], []⟩
theorem laws_szYardOpS_de (res : Res T) (y : Int) (h : laws_szYardOpS_dec res = some y) : res = laws_szYardOpS_enc y := by
  obtain ⟨rets, outs⟩ := res
  unfold laws_szYardOpS_dec at h
  dsimp only at h
  split at h
  · obtain ⟨r0, h0, h⟩ := Option.bind_eq_some_iff.1 h
    cases h
    rw [retV_eq ok h0]
    rfl
  · cases h
def laws_toIntS_dec (res : Res T) : Option (List Int) := match res.rets, res.outs with
  | [a0], [] => (retV (T := T) 23 a0).bind fun r0 => some (r0)
  | _, _ => none
def laws_toIntS_enc (y : List Int) : Res T := ⟨[vR T 23 y], []⟩
theorem laws_toIntS_de (res : Res T) (y : List Int) (h : laws_toIntS_dec res = some y) : res = laws_toIntS_enc y := by
  obtain ⟨rets, outs⟩ := res
  unfold laws_toIntS_dec at h
  dsimp only at h
  split at h
  · obtain ⟨r0, h0, h⟩ := Option.bind_eq_some_iff.1 h
    cases h
    rw [retV_eq ok h0]
    rfl
  · cases h
def laws_toIntSS_dec (res : Res T) : Option (List (List Int)) := match res.rets, res.outs with
  | [a0], [] => (retV (T := T) 35 a0).bind fun r0 => some (r0)
  | _, _ => none
def laws_toIntSS_enc (y : List (List Int)) : Res T := ⟨[vR T 35 y], []⟩
theorem laws_toIntSS_de (res : Res T) (y : List (List Int)) (h : laws_toIntSS_dec res = some y) : res = laws_toIntSS_enc y := by
  obtain ⟨rets, outs⟩ := res
  unfold laws_toIntSS_dec at h
  dsimp only at h
  split at h
  · obtain ⟨r0, h0, h⟩ := Option.bind_eq_some_iff.1 h
    cases h
    rw [retV_eq ok h0]
    rfl
  · cases h
def laws_toYard_dec (res : Res T) : Option SYard := match res.rets, res.outs with
  | [a0], [] => (retV (T := T) 41 a0).bind fun r0 => some (r0)
  | _, _ => none
def laws_toYard_enc (y : SYard) : Res T := ⟨[vR T 41 y], []⟩
theorem laws_toYard_de (res : Res T) (y : SYard) (h : laws_toYard_dec res = some y) : res = laws_toYard_enc y := by
  obtain ⟨rets, outs⟩ := res
  unfold laws_toYard_dec at h
  dsimp only at h
  split at h
  · obtain ⟨r0, h0, h⟩ := Option.bind_eq_some_iff.1 h
    cases h
    rw [retV_eq ok h0]
    rfl
  · cases h
def laws_toYardOp_dec (res : Res T) : Option SYardOp := match res.rets, res.outs with
  | [a0], [] => (retV (T := T) 45 a0).bind fun r0 => some (r0)
  | _, _ => none
def laws_toYardOp_enc (y : SYardOp) : Res T := ⟨[vR T 45 y], []⟩
theorem laws_toYardOp_de (res : Res T) (y : SYardOp) (h : laws_toYardOp_dec res = some y) : res = laws_toYardOp_enc y := by
  obtain ⟨rets, outs⟩ := res
  unfold laws_toYardOp_dec at h
  dsimp only at h
  split at h
  · obtain ⟨r0, h0, h⟩ := Option.bind_eq_some_iff.1 h
    cases h
    rw [retV_eq ok h0]
    rfl
  · cases h
def laws_toYardOpS_dec (res : Res T) : Option (List SYardOp) := match res.rets, res.outs with
  | [a0], [] => (retV (T := T) 54 a0).bind fun r0 => some (r0)
  | _, _ => none
def laws_toYardOpS_enc (y : List SYardOp) : Res T := ⟨[vR T 54 y], []⟩
theorem laws_toYardOpS_de (res : Res T) (y : List SYardOp) (h : laws_toYardOpS_dec res = some y) : res = laws_toYardOpS_enc y := by
  obtain ⟨rets, outs⟩ := res
  unfold laws_toYardOpS_dec at h
  dsimp only at h
  split at h
  · obtain ⟨r0, h0, h⟩ := Option.bind_eq_some_iff.1 h
    cases h
    rw [retV_eq ok h0]
    rfl
  · cases h
def spec_l18Copy_dec (res : Res T) : Option SYard := match res.rets, res.outs with
  | [a0], [] => (retV (T := T) 41 a0).bind fun r0 => some (r0)
  | _, _ => none
def spec_l18Copy_enc (y : SYard) : Res T := ⟨[vR T 41 y], []⟩
theorem spec_l18Copy_de (res : Res T) (y : SYard) (h : spec_l18Copy_dec res = some y) : res = spec_l18Copy_enc y := by
  obtain ⟨rets, outs⟩ := res
  unfold spec_l18Copy_dec at h
  dsimp only at h
  split at h
  · obtain ⟨r0, h0, h⟩ := Option.bind_eq_some_iff.1 h
    cases h
    rw [retV_eq ok h0]
    rfl
  · cases h
def spec_l1In_dec (res : Res T) : Option Bool := match res.rets, res.outs with
  | [a0], [] => (retV (T := T) 4 a0).bind fun r0 => some (r0)
  | _, _ => none
def spec_l1In_enc (y : Bool) : Res T := ⟨[vR T 4 y], []⟩
theorem spec_l1In_de (res : Res T) (y : Bool) (h : spec_l1In_dec res = some y) : res = spec_l1In_enc y := by
  obtain ⟨rets, outs⟩ := res
  unfold spec_l1In_dec at h
  dsimp only at h
  split at h
  · obtain ⟨r0, h0, h⟩ := Option.bind_eq_some_iff.1 h
    cases h
    rw [retV_eq ok h0]
    rfl
  · cases h
def spec_l18Count_dec (res : Res T) : Option Int := match res.rets, res.outs with
  | [a0], [] => (retV (T := T) 3 a0).bind fun r0 => some (r0)
  | _, _ => none
def spec_l18Count_enc (y : Int) : Res T := ⟨[vR T 3 y], []⟩
theorem spec_l18Count_de (res : Res T) (y : Int) (h : spec_l18Count_dec res = some y) : res = spec_l18Count_enc y := by
  obtain ⟨rets, outs⟩ := res
  unfold spec_l18Count_dec at h
  dsimp only at h
  split at h
  · obtain ⟨r0, h0, h⟩ := Option.bind_eq_some_iff.1 h
    cases h
    rw [retV_eq ok h0]
    rfl
  · cases h
def spec_YardOk_dec (res : Res T) : Option Bool := match res.rets, res.outs with
  | [a0], [] => (retV (T := T) 4 a0).bind fun r0 => some (r0)
  | _, _ => none
def spec_YardOk_enc (y : Bool) : Res T := ⟨[vR T 4 y], []⟩
theorem spec_YardOk_de (res : Res T) (y : Bool) (h : spec_YardOk_dec res = some y) : res = spec_YardOk_enc y := by
  obtain ⟨rets, outs⟩ := res
  unfold spec_YardOk_dec at h
  dsimp only at h
  split at h
  · obtain ⟨r0, h0, h⟩ := Option.bind_eq_some_iff.1 h
    cases h
    rw [retV_eq ok h0]
    rfl
  · cases h
def spec_l18Op_dec (res : Res T) : Option Bool := match res.rets, res.outs with
  | [a0], [] => (retV (T := T) 4 a0).bind fun r0 => some (r0)
  | _, _ => none
def spec_l18Op_enc (y : Bool) : Res T := ⟨[vR T 4 y], []⟩
theorem spec_l18Op_de (res : Res T) (y : Bool) (h : spec_l18Op_dec res = some y) : res = spec_l18Op_enc y := by
  obtain ⟨rets, outs⟩ := res
  unfold spec_l18Op_dec at h
  dsimp only at h
  split at h
  · obtain ⟨r0, h0, h⟩ := Option.bind_eq_some_iff.1 h
    cases h
    rw [retV_eq ok h0]
    rfl
  · cases h
def spec_FindBox_dec (res : Res T) : Option (Int × Int × Bool) := match res.rets, res.outs with
  | [a0, a1, a2], [] => (retV (T := T) 3 a0).bind fun r0 => (retV (T := T) 3 a1).bind fun r1 => (retV (T := T) 4 a2).bind fun r2 => some (r0, r1, r2)
  | _, _ => none
def spec_FindBox_enc (y : Int × Int × Bool) : Res T := ⟨[vR T 3 y.1, vR T 3 y.2.1, vR T 4 y.2.2], []⟩
theorem spec_FindBox_de (res : Res T) (y : Int × Int × Bool) (h : spec_FindBox_dec res = some y) : res = spec_FindBox_enc y := by
  obtain ⟨rets, outs⟩ := res
  unfold spec_FindBox_dec at h
  dsimp only at h
  split at h
  · obtain ⟨r0, h0, h⟩ := Option.bind_eq_some_iff.1 h
    obtain ⟨r1, h1, h⟩ := Option.bind_eq_some_iff.1 h
    obtain ⟨r2, h2, h⟩ := Option.bind_eq_some_iff.1 h
    cases h
    rw [retV_eq ok h0, retV_eq ok h1, retV_eq ok h2]
    rfl
  · cases h
def spec_l18Shift_dec (res : Res T) : Option (List (List Int)) := match res.rets, res.outs with
  | [], [b0] => (outS (T := T) 23 b0).bind fun r0 => some (r0)
  | _, _ => none
def spec_l18Shift_enc (y : List (List Int)) : Res T := ⟨[], [.sl 23 y]⟩
theorem spec_l18Shift_de (res : Res T) (y : List (List Int)) (h : spec_l18Shift_dec res = some y) : res = spec_l18Shift_enc y := by
  obtain ⟨rets, outs⟩ := res
  unfold spec_l18Shift_dec at h
  dsimp only at h
  split at h
  · obtain ⟨r0, h0, h⟩ := Option.bind_eq_some_iff.1 h
    cases h
    rw [outS_eq h0]
    rfl
  · cases h
def spec_DoYard_dec (res : Res T) : Option (SYard × Int × Int) := match res.rets, res.outs with
  | [a0, a1, a2], [] => (retV (T := T) 41 a0).bind fun r0 => (retV (T := T) 3 a1).bind fun r1 => (retV (T := T) 3 a2).bind fun r2 => some (r0, r1, r2)
  | _, _ => none
def spec_DoYard_enc (y : SYard × Int × Int) : Res T := ⟨[vR T 41 y.1, vR T 3 y.2.1, vR T 3 y.2.2], []⟩
theorem spec_DoYard_de (res : Res T) (y : SYard × Int × Int) (h : spec_DoYard_dec res = some y) : res = spec_DoYard_enc y := by
  obtain ⟨rets, outs⟩ := res
  unfold spec_DoYard_dec at h
  dsimp only at h
  split at h
  · obtain ⟨r0, h0, h⟩ := Option.bind_eq_some_iff.1 h
    obtain ⟨r1, h1, h⟩ := Option.bind_eq_some_iff.1 h
    obtain ⟨r2, h2, h⟩ := Option.bind_eq_some_iff.1 h
    cases h
    rw [retV_eq ok h0, retV_eq ok h1, retV_eq ok h2]
    rfl
  · cases h
def spec_RunYard_dec (res : Res T) : Option (SYard × List Int × Int) := match res.rets, res.outs with
  | [a0, a1, a2], [] => (retV (T := T) 41 a0).bind fun r0 => (retV (T := T) 23 a1).bind fun r1 => (retV (T := T) 3 a2).bind fun r2 => some (r0, r1, r2)
  | _, _ => none
def spec_RunYard_enc (y : SYard × List Int × Int) : Res T := ⟨[vR T 41 y.1, vR T 23 y.2.1, vR T 3 y.2.2], []⟩
theorem spec_RunYard_de (res : Res T) (y : SYard × List Int × Int) (h : spec_RunYard_dec res = some y) : res = spec_RunYard_enc y := by
  obtain ⟨rets, outs⟩ := res
  unfold spec_RunYard_dec at h
  dsimp only at h
  split at h
  · obtain ⟨r0, h0, h⟩ := Option.bind_eq_some_iff.1 h
    obtain ⟨r1, h1, h⟩ := Option.bind_eq_some_iff.1 h
    obtain ⟨r2, h2, h⟩ := Option.bind_eq_some_iff.1 h
    cases h
    rw [retV_eq ok h0, retV_eq ok h1, retV_eq ok h2]
    rfl
  · cases h
def impl_own_int_dec (res : Res T) : Option (List (List Int)) := match res.rets, res.outs with
  | [a0], [] => (retV (T := T) 35 a0).bind fun r0 => some (r0)
  | _, _ => none
def impl_own_int_enc (y : List (List Int)) : Res T := ⟨[vR T 35 y], []⟩
theorem impl_own_int_de (res : Res T) (y : List (List Int)) (h : impl_own_int_dec res = some y) : res = impl_own_int_enc y := by
  obtain ⟨rets, outs⟩ := res
  unfold impl_own_int_dec at h
  dsimp only at h
  split at h
  · obtain ⟨r0, h0, h⟩ := Option.bind_eq_some_iff.1 h
    cases h
    rw [retV_eq ok h0]
    rfl
  · cases h
def impl_own_int_f104_dec (res : Res T) : Option (List Int) := match res.rets, res.outs with
  | [a0], [] => (retV (T := T) 23 a0).bind fun r0 => some (r0)
  | _, _ => none
def impl_own_int_f104_enc (y : List Int) : Res T := ⟨[vR T 23 y], []⟩
theorem impl_own_int_f104_de (res : Res T) (y : List Int) (h : impl_own_int_f104_dec res = some y) : res = impl_own_int_f104_enc y := by
  obtain ⟨rets, outs⟩ := res
  unfold impl_own_int_f104_dec at h
  dsimp only at h
  split at h
  · obtain ⟨r0, h0, h⟩ := Option.bind_eq_some_iff.1 h
    cases h
    rw [retV_eq ok h0]
    rfl
  · cases h
def impl_Yard_own_dec (res : Res T) : Option SYard := match res.rets, res.outs with
  | [a0], [] => (retV (T := T) 41 a0).bind fun r0 => some (r0)
  | _, _ => none
def impl_Yard_own_enc (y : SYard) : Res T := ⟨[vR T 41 y], []⟩
theorem impl_Yard_own_de (res : Res T) (y : SYard) (h : impl_Yard_own_dec res = some y) : res = impl_Yard_own_enc y := by
  obtain ⟨rets, outs⟩ := res
  unfold impl_Yard_own_dec at h
  dsimp only at h
  split at h
  · obtain ⟨r0, h0, h⟩ := Option.bind_eq_some_iff.1 h
    cases h
    rw [retV_eq ok h0]
    rfl
  · cases h
def impl_in_dec (res : Res T) : Option Bool := match res.rets, res.outs with
  | [a0], [] => (retV (T := T) 4 a0).bind fun r0 => some (r0)
  | _, _ => none
def impl_in_enc (y : Bool) : Res T := ⟨[vR T 4 y], []⟩
theorem impl_in_de (res : Res T) (y : Bool) (h : impl_in_dec res = some y) : res = impl_in_enc y := by
  obtain ⟨rets, outs⟩ := res
  unfold impl_in_dec at h
  dsimp only at h
  split at h
  · obtain ⟨r0, h0, h⟩ := Option.bind_eq_some_iff.1 h
    cases h
    rw [retV_eq ok h0]
    rfl
  · cases h
def impl_idRight_dec (res : Res T) : Option Bool := match res.rets, res.outs with
  | [a0], [] => (retV (T := T) 4 a0).bind fun r0 => some (r0)
  | _, _ => none
def impl_idRight_enc (y : Bool) : Res T := ⟨[vR T 4 y], []⟩
theorem impl_idRight_de (res : Res T) (y : Bool) (h : impl_idRight_dec res = some y) : res = impl_idRight_enc y := by
  obtain ⟨rets, outs⟩ := res
  unfold impl_idRight_dec at h
  dsimp only at h
  split at h
  · obtain ⟨r0, h0, h⟩ := Option.bind_eq_some_iff.1 h
    cases h
    rw [retV_eq ok h0]
    rfl
  · cases h
def impl_YardOk_dec (res : Res T) : Option Bool := match res.rets, res.outs with
  | [a0], [] => (retV (T := T) 4 a0).bind fun r0 => some (r0)
  | _, _ => none
def impl_YardOk_enc (y : Bool) : Res T := ⟨[vR T 4 y], []⟩
theorem impl_YardOk_de (res : Res T) (y : Bool) (h : impl_YardOk_dec res = some y) : res = impl_YardOk_enc y := by
  obtain ⟨rets, outs⟩ := res
  unfold impl_YardOk_dec at h
  dsimp only at h
  split at h
  · obtain ⟨r0, h0, h⟩ := Option.bind_eq_some_iff.1 h
    cases h
    rw [retV_eq ok h0]
    rfl
  · cases h
def slices_Index_int_int_dec (res : Res T) : Option Int := match res.rets, res.outs with
  | [a0], [] => (retV (T := T) 3 a0).bind fun r0 => some (r0)
  | _, _ => none
def slices_Index_int_int_enc (y : Int) : Res T := ⟨[vR T 3 y], []⟩
theorem slices_Index_int_int_de (res : Res T) (y : Int) (h : slices_Index_int_int_dec res = some y) : res = slices_Index_int_int_enc y := by
  obtain ⟨rets, outs⟩ := res
  unfold slices_Index_int_int_dec at h
  dsimp only at h
  split at h
  · obtain ⟨r0, h0, h⟩ := Option.bind_eq_some_iff.1 h
    cases h
    rw [retV_eq ok h0]
    rfl
  · cases h
def impl_FindBox_dec (res : Res T) : Option (Int × Int × Bool) := match res.rets, res.outs with
  | [a0, a1, a2], [] => (retV (T := T) 3 a0).bind fun r0 => (retV (T := T) 3 a1).bind fun r1 => (retV (T := T) 4 a2).bind fun r2 => some (r0, r1, r2)
  | _, _ => none
def impl_FindBox_enc (y : Int × Int × Bool) : Res T := ⟨[vR T 3 y.1, vR T 3 y.2.1, vR T 4 y.2.2], []⟩
theorem impl_FindBox_de (res : Res T) (y : Int × Int × Bool) (h : impl_FindBox_dec res = some y) : res = impl_FindBox_enc y := by
  obtain ⟨rets, outs⟩ := res
  unfold impl_FindBox_dec at h
  dsimp only at h
  split at h
  · obtain ⟨r0, h0, h⟩ := Option.bind_eq_some_iff.1 h
    obtain ⟨r1, h1, h⟩ := Option.bind_eq_some_iff.1 h
    obtain ⟨r2, h2, h⟩ := Option.bind_eq_some_iff.1 h
    cases h
    rw [retV_eq ok h0, retV_eq ok h1, retV_eq ok h2]
    rfl
  · cases h
def impl_Yard_lift_dec (res : Res T) : Option (List (List Int)) := match res.rets, res.outs with
  | [], [b0] => (outS (T := T) 23 b0).bind fun r0 => some (r0)
  | _, _ => none
def impl_Yard_lift_enc (y : List (List Int)) : Res T := ⟨[], [.sl 23 y]⟩
theorem impl_Yard_lift_de (res : Res T) (y : List (List Int)) (h : impl_Yard_lift_dec res = some y) : res = impl_Yard_lift_enc y := by
  obtain ⟨rets, outs⟩ := res
  unfold impl_Yard_lift_dec at h
  dsimp only at h
  split at h
  · obtain ⟨r0, h0, h⟩ := Option.bind_eq_some_iff.1 h
    cases h
    rw [outS_eq h0]
    rfl
  · cases h
def impl_DoYard_dec (res : Res T) : Option (SYard × Int × Int) := match res.rets, res.outs with
  | [a0, a1, a2], [] => (retV (T := T) 41 a0).bind fun r0 => (retV (T := T) 3 a1).bind fun r1 => (retV (T := T) 3 a2).bind fun r2 => some (r0, r1, r2)
  | _, _ => none
def impl_DoYard_enc (y : SYard × Int × Int) : Res T := ⟨[vR T 41 y.1, vR T 3 y.2.1, vR T 3 y.2.2], []⟩
theorem impl_DoYard_de (res : Res T) (y : SYard × Int × Int) (h : impl_DoYard_dec res = some y) : res = impl_DoYard_enc y := by
  obtain ⟨rets, outs⟩ := res
  unfold impl_DoYard_dec at h
  dsimp only at h
  split at h
  · obtain ⟨r0, h0, h⟩ := Option.bind_eq_some_iff.1 h
    obtain ⟨r1, h1, h⟩ := Option.bind_eq_some_iff.1 h
    obtain ⟨r2, h2, h⟩ := Option.bind_eq_some_iff.1 h
    cases h
    rw [retV_eq ok h0, retV_eq ok h1, retV_eq ok h2]
    rfl
  · cases h
def impl_RunYard_dec (res : Res T) : Option (SYard × List Int × Int) := match res.rets, res.outs with
  | [a0, a1, a2], [] => (retV (T := T) 41 a0).bind fun r0 => (retV (T := T) 23 a1).bind fun r1 => (retV (T := T) 3 a2).bind fun r2 => some (r0, r1, r2)
  | _, _ => none
def impl_RunYard_enc (y : SYard × List Int × Int) : Res T := ⟨[vR T 41 y.1, vR T 23 y.2.1, vR T 3 y.2.2], []⟩
theorem impl_RunYard_de (res : Res T) (y : SYard × List Int × Int) (h : impl_RunYard_dec res = some y) : res = impl_RunYard_enc y := by
  obtain ⟨rets, outs⟩ := res
  unfold impl_RunYard_dec at h
  dsimp only at h
  split at h
  · obtain ⟨r0, h0, h⟩ := Option.bind_eq_some_iff.1 h
    obtain ⟨r1, h1, h⟩ := Option.bind_eq_some_iff.1 h
    obtain ⟨r2, h2, h⟩ := Option.bind_eq_some_iff.1 h
    cases h
    rw [retV_eq ok h0, retV_eq ok h1, retV_eq ok h2]
    rfl
  · cases h
def laws_eqIntS_dec (res : Res T) : Option Bool := match res.rets, res.outs with
  | [a0], [] => (retV (T := T) 4 a0).bind fun r0 => some (r0)
  | _, _ => none
def laws_eqIntS_enc (y : Bool) : Res T := ⟨[vR T 4 y], []⟩
theorem laws_eqIntS_de (res : Res T) (y : Bool) (h : laws_eqIntS_dec res = some y) : res = laws_eqIntS_enc y := by
  obtain ⟨rets, outs⟩ := res
  unfold laws_eqIntS_dec at h
  dsimp only at h
  split at h
  · obtain ⟨r0, h0, h⟩ := Option.bind_eq_some_iff.1 h
    cases h
    rw [retV_eq ok h0]
    rfl
  · cases h
def laws_eqIntSS_dec (res : Res T) : Option Bool := match res.rets, res.outs with
  | [a0], [] => (retV (T := T) 4 a0).bind fun r0 => some (r0)
  | _, _ => none
def laws_eqIntSS_enc (y : Bool) : Res T := ⟨[vR T 4 y], []⟩
theorem laws_eqIntSS_de (res : Res T) (y : Bool) (h : laws_eqIntSS_dec res = some y) : res = laws_eqIntSS_enc y := by
  obtain ⟨rets, outs⟩ := res
  unfold laws_eqIntSS_dec at h
  dsimp only at h
  split at h
  · obtain ⟨r0, h0, h⟩ := Option.bind_eq_some_iff.1 h
    cases h
    rw [retV_eq ok h0]
    rfl
  · cases h
def laws_eqYard_dec (res : Res T) : Option Bool := match res.rets, res.outs with
  | [a0], [] => (retV (T := T) 4 a0).bind fun r0 => some (r0)
  | _, _ => none
def laws_eqYard_enc (y : Bool) : Res T := ⟨[vR T 4 y], []⟩
theorem laws_eqYard_de (res : Res T) (y : Bool) (h : laws_eqYard_dec res = some y) : res = laws_eqYard_enc y := by
  obtain ⟨rets, outs⟩ := res
  unfold laws_eqYard_dec at h
  dsimp only at h
  split at h
  · obtain ⟨r0, h0, h⟩ := Option.bind_eq_some_iff.1 h
    cases h
    rw [retV_eq ok h0]
    rfl
  · cases h
def laws_eqYardOp_dec (res : Res T) : Option Bool := match res.rets, res.outs with
  | [a0], [] => (retV (T := T) 4 a0).bind fun r0 => some (r0)
  | _, _ => none
def laws_eqYardOp_enc (y : Bool) : Res T := ⟨[vR T 4 y], []⟩
theorem laws_eqYardOp_de (res : Res T) (y : Bool) (h : laws_eqYardOp_dec res = some y) : res = laws_eqYardOp_enc y := by
  obtain ⟨rets, outs⟩ := res
  unfold laws_eqYardOp_dec at h
  dsimp only at h
  split at h
  · obtain ⟨r0, h0, h⟩ := Option.bind_eq_some_iff.1 h
    cases h
    rw [retV_eq ok h0]
    rfl
  · cases h
def laws_eqYardOpS_dec (res : Res T) : Option Bool := match res.rets, res.outs with
  | [a0], [] => (retV (T := T) 4 a0).bind fun r0 => some (r0)
  | _, _ => none
def laws_eqYardOpS_enc (y : Bool) : Res T := ⟨[vR T 4 y], []⟩
theorem laws_eqYardOpS_de (res : Res T) (y : Bool) (h : laws_eqYardOpS_dec res = some y) : res = laws_eqYardOpS_enc y := by
  obtain ⟨rets, outs⟩ := res
  unfold laws_eqYardOpS_dec at h
  dsimp only at h
  split at h
  · obtain ⟨r0, h0, h⟩ := Option.bind_eq_some_iff.1 h
    cases h
    rw [retV_eq ok h0]
    rfl
  · cases h
def laws_markIntS_dec (res : Res T) : Option (Int × List Int) := match res.rets, res.outs with
  | [a0], [b0] => (retV (T := T) 3 a0).bind fun r0 => (outS (T := T) 3 b0).bind fun r1 => some (r0, r1)
  | _, _ => none
def laws_markIntS_enc (y : Int × List Int) : Res T := ⟨[vR T 3 y.1], [.sl 3 y.2]⟩
theorem laws_markIntS_de (res : Res T) (y : Int × List Int) (h : laws_markIntS_dec res = some y) : res = laws_markIntS_enc y := by
  obtain ⟨rets, outs⟩ := res
  unfold laws_markIntS_dec at h
  dsimp only at h
  split at h
  · obtain ⟨r0, h0, h⟩ := Option.bind_eq_some_iff.1 h
    obtain ⟨r1, h1, h⟩ := Option.bind_eq_some_iff.1 h
    cases h
    rw [retV_eq ok h0, outS_eq h1]
    rfl
  · cases h
def laws_markIntSS_dec (res : Res T) : Option (Int × List (List Int)) := match res.rets, res.outs with
  | [a0], [b0] => (retV (T := T) 3 a0).bind fun r0 => (outS (T := T) 23 b0).bind fun r1 => some (r0, r1)
  | _, _ => none
def laws_markIntSS_enc (y : Int × List (List Int)) : Res T := ⟨[vR T 3 y.1], [.sl 23 y.2]⟩
theorem laws_markIntSS_de (res : Res T) (y : Int × List (List Int)) (h : laws_markIntSS_dec res = some y) : res = laws_markIntSS_enc y := by
  obtain ⟨rets, outs⟩ := res
  unfold laws_markIntSS_dec at h
  dsimp only at h
  split at h
  · obtain ⟨r0, h0, h⟩ := Option.bind_eq_some_iff.1 h
    obtain ⟨r1, h1, h⟩ := Option.bind_eq_some_iff.1 h
    cases h
    rw [retV_eq ok h0, outS_eq h1]
    rfl
  · cases h
def laws_markYard_dec (res : Res T) : Option (Int × List (List Int)) := match res.rets, res.outs with
  | [a0], [b0] => (retV (T := T) 3 a0).bind fun r0 => (outS (T := T) 23 b0).bind fun r1 => some (r0, r1)
  | _, _ => none
def laws_markYard_enc (y : Int × List (List Int)) : Res T := ⟨[vR T 3 y.1], [.sl 23 y.2]⟩
theorem laws_markYard_de (res : Res T) (y : Int × List (List Int)) (h : laws_markYard_dec res = some y) : res = laws_markYard_enc y := by
  obtain ⟨rets, outs⟩ := res
  unfold laws_markYard_dec at h
  dsimp only at h
  split at h
  · obtain ⟨r0, h0, h⟩ := Option.bind_eq_some_iff.1 h
    obtain ⟨r1, h1, h⟩ := Option.bind_eq_some_iff.1 h
    cases h
    rw [retV_eq ok h0, outS_eq h1]
    rfl
  · cases h
def laws_markYardOpS_dec (res : Res T) : Option (Int × List SYardOp) := match res.rets, res.outs with
  | [a0], [b0] => (retV (T := T) 3 a0).bind fun r0 => (outS (T := T) 45 b0).bind fun r1 => some (r0, r1)
  | _, _ => none
def laws_markYardOpS_enc (y : Int × List SYardOp) : Res T := ⟨[vR T 3 y.1], [.sl 45 y.2]⟩
theorem laws_markYardOpS_de (res : Res T) (y : Int × List SYardOp) (h : laws_markYardOpS_dec res = some y) : res = laws_markYardOpS_enc y := by
  obtain ⟨rets, outs⟩ := res
  unfold laws_markYardOpS_dec at h
  dsimp only at h
  split at h
  · obtain ⟨r0, h0, h⟩ := Option.bind_eq_some_iff.1 h
    obtain ⟨r1, h1, h⟩ := Option.bind_eq_some_iff.1 h
    cases h
    rw [retV_eq ok h0, outS_eq h1]
    rfl
  · cases h
def laws_heldIntS_dec (res : Res T) : Option Int := match res.rets, res.outs with
  | [a0], [] => (retV (T := T) 3 a0).bind fun r0 => some (r0)
  | _, _ => none
def laws_heldIntS_enc (y : Int) : Res T := ⟨[vR T 3 y], []⟩
theorem laws_heldIntS_de (res : Res T) (y : Int) (h : laws_heldIntS_dec res = some y) : res = laws_heldIntS_enc y := by
  obtain ⟨rets, outs⟩ := res
  unfold laws_heldIntS_dec at h
  dsimp only at h
  split at h
  · obtain ⟨r0, h0, h⟩ := Option.bind_eq_some_iff.1 h
    cases h
    rw [retV_eq ok h0]
    rfl
  · cases h
def laws_heldIntSS_dec (res : Res T) : Option Int := match res.rets, res.outs with
  | [a0], [] => (retV (T := T) 3 a0).bind fun r0 => some (r0)
  | _, _ => none
def laws_heldIntSS_enc (y : Int) : Res T := ⟨[vR T 3 y], []⟩
theorem laws_heldIntSS_de (res : Res T) (y : Int) (h : laws_heldIntSS_dec res = some y) : res = laws_heldIntSS_enc y := by
  obtain ⟨rets, outs⟩ := res
  unfold laws_heldIntSS_dec at h
  dsimp only at h
  split at h
  · obtain ⟨r0, h0, h⟩ := Option.bind_eq_some_iff.1 h
    cases h
    rw [retV_eq ok h0]
    rfl
  · cases h
def laws_heldYard_dec (res : Res T) : Option Int := match res.rets, res.outs with
  | [a0], [] => (retV (T := T) 3 a0).bind fun r0 => some (r0)
  | _, _ => none
def laws_heldYard_enc (y : Int) : Res T := ⟨[vR T 3 y], []⟩
theorem laws_heldYard_de (res : Res T) (y : Int) (h : laws_heldYard_dec res = some y) : res = laws_heldYard_enc y := by
  obtain ⟨rets, outs⟩ := res
  unfold laws_heldYard_dec at h
  dsimp only at h
  split at h
  · obtain ⟨r0, h0, h⟩ := Option.bind_eq_some_iff.1 h
    cases h
    rw [retV_eq ok h0]
    rfl
  · cases h
def laws_FnExactRunYard_dec (res : Res T) : Option Bool := match res.rets, res.outs with
  | [a0], [] => (retV (T := T) 4 a0).bind fun r0 => some (r0)
  | _, _ => none
def laws_FnExactRunYard_enc (y : Bool) : Res T := ⟨[vR T 4 y], []⟩
theorem laws_FnExactRunYard_de (res : Res T) (y : Bool) (h : laws_FnExactRunYard_dec res = some y) : res = laws_FnExactRunYard_enc y := by
  obtain ⟨rets, outs⟩ := res
  unfold laws_FnExactRunYard_dec at h
  dsimp only at h
  split at h
  · obtain ⟨r0, h0, h⟩ := Option.bind_eq_some_iff.1 h
    cases h
    rw [retV_eq ok h0]
    rfl
  · cases h
def laws_szIntS_D (n : Nat) (r0 : List (A T)) : Option Int := ocons r0 fun a0 r1 => ocons r1 fun a1 r2 => onil r2 (obind (argV (T := T) 23 a0) fun a0 => obind (argV (T := T) 3 a1) fun left1 => laws_szIntS n a0 left1)
def laws_szIntS_ent (n : Nat) : Ent T := ⟨83, 0, [], Int, laws_szIntS_D n, laws_szIntS_enc⟩
def laws_szIntSS_D (n : Nat) (r0 : List (A T)) : Option Int := ocons r0 fun a0 r1 => ocons r1 fun a1 r2 => onil r2 (obind (argV (T := T) 35 a0) fun a0 => obind (argV (T := T) 3 a1) fun left1 => laws_szIntSS n a0 left1)
def laws_szIntSS_ent (n : Nat) : Ent T := ⟨92, 1, [], Int, laws_szIntSS_D n, laws_szIntSS_enc⟩
def laws_szYard_D (n : Nat) (r0 : List (A T)) : Option Int := ocons r0 fun a0 r1 => ocons r1 fun a1 r2 => onil r2 (obind (argV (T := T) 37 a0) fun a0 => obind (argV (T := T) 3 a1) fun left1 => laws_szYard n a0 left1)
def laws_szYard_ent (n : Nat) : Ent T := ⟨19, 2, [], Int, laws_szYard_D n, laws_szYard_enc⟩
def laws_szYardOpS_D (n : Nat) (r0 : List (A T)) : Option Int := ocons r0 fun a0 r1 => ocons r1 fun a1 r2 => onil r2 (obind (argV (T := T) 50 a0) fun a0 => obind (argV (T := T) 3 a1) fun left1 => laws_szYardOpS n a0 left1)
def laws_szYardOpS_ent (n : Nat) : Ent T := ⟨27, 3, [], Int, laws_szYardOpS_D n, laws_szYardOpS_enc⟩
def laws_toIntS_D (n : Nat) (r0 : List (A T)) : Option (List Int) := ocons r0 fun a0 r1 => onil r1 (obind (argV (T := T) 23 a0) fun a0 => laws_toIntS n a0)
def laws_toIntS_ent (n : Nat) : Ent T := ⟨88, 4, [], List Int, laws_toIntS_D n, laws_toIntS_enc⟩
def laws_toIntSS_D (n : Nat) (r0 : List (A T)) : Option (List (List Int)) := ocons r0 fun a0 r1 => onil r1 (obind (argV (T := T) 35 a0) fun a0 => laws_toIntSS n a0)
def laws_toIntSS_ent (n : Nat) : Ent T := ⟨98, 5, [], List (List Int), laws_toIntSS_D n, laws_toIntSS_enc⟩
def laws_toYard_D (n : Nat) (r0 : List (A T)) : Option SYard := ocons r0 fun a0 r1 => onil r1 (obind (argV (T := T) 37 a0) fun a0 => laws_toYard n a0)
def laws_toYard_ent (n : Nat) : Ent T := ⟨21, 6, [], SYard, laws_toYard_D n, laws_toYard_enc⟩
def laws_toYardOp_D (n : Nat) (r0 : List (A T)) : Option SYardOp := ocons r0 fun a0 r1 => onil r1 (obind (argV (T := T) 39 a0) fun a0 => laws_toYardOp n a0)
def laws_toYardOp_ent (n : Nat) : Ent T := ⟨22, 7, [], SYardOp, laws_toYardOp_D n, laws_toYardOp_enc⟩
def laws_toYardOpS_D (n : Nat) (r0 : List (A T)) : Option (List SYardOp) := ocons r0 fun a0 r1 => onil r1 (obind (argV (T := T) 50 a0) fun a0 => laws_toYardOpS n a0)
def laws_toYardOpS_ent (n : Nat) : Ent T := ⟨29, 8, [], List SYardOp, laws_toYardOpS_D n, laws_toYardOpS_enc⟩
def spec_l18Copy_D (n : Nat) (r0 : List (A T)) : Option SYard := ocons r0 fun a0 r1 => onil r1 (obind (argV (T := T) 41 a0) fun y0 => spec_l18Copy n y0)
def spec_l18Copy_ent (n : Nat) : Ent T := ⟨93, 9, [], SYard, spec_l18Copy_D n, spec_l18Copy_enc⟩
def spec_l1In_D (n : Nat) (r0 : List (A T)) : Option Bool := ocons r0 fun a0 r1 => ocons r1 fun a1 r2 => ocons r2 fun a2 r3 => onil r3 (obind (argV (T := T) 3 a0) fun x0 => obind (argV (T := T) 3 a1) fun a1 => obind (argV (T := T) 3 a2) fun b2 => spec_l1In n x0 a1 b2)
def spec_l1In_ent (n : Nat) : Ent T := ⟨174, 10, [], Bool, spec_l1In_D n, spec_l1In_enc⟩
def spec_l18Count_D (n : Nat) (r0 : List (A T)) : Option Int := ocons r0 fun a0 r1 => ocons r1 fun a1 r2 => onil r2 (obind (argV (T := T) 41 a0) fun y0 => obind (argV (T := T) 3 a1) fun box1 => spec_l18Count n y0 box1)
def spec_l18Count_ent (n : Nat) : Ent T := ⟨181, 11, [], Int, spec_l18Count_D n, spec_l18Count_enc⟩
def spec_YardOk_D (n : Nat) (r0 : List (A T)) : Option Bool := ocons r0 fun a0 r1 => onil r1 (obind (argV (T := T) 41 a0) fun y0 => spec_YardOk n y0)
def spec_YardOk_ent (n : Nat) : Ent T := ⟨94, 12, [], Bool, spec_YardOk_D n, spec_YardOk_enc⟩
def spec_l18Op_D (n : Nat) (r0 : List (A T)) : Option Bool := ocons r0 fun a0 r1 => ocons r1 fun a1 r2 => onil r2 (obind (argV (T := T) 41 a0) fun y0 => obind (argV (T := T) 45 a1) fun op1 => spec_l18Op n y0 op1)
def spec_l18Op_ent (n : Nat) : Ent T := ⟨95, 13, [], Bool, spec_l18Op_D n, spec_l18Op_enc⟩
def spec_FindBox_D (n : Nat) (r0 : List (A T)) : Option (Int × Int × Bool) := ocons r0 fun a0 r1 => ocons r1 fun a1 r2 => onil r2 (obind (argV (T := T) 41 a0) fun y0 => obind (argV (T := T) 3 a1) fun box1 => spec_FindBox n y0 box1)
def spec_FindBox_ent (n : Nat) : Ent T := ⟨96, 14, [], Int × Int × Bool, spec_FindBox_D n, spec_FindBox_enc⟩
def spec_l18Shift_D (n : Nat) (r0 : List (A T)) : Option (List (List Int)) := ocons r0 fun a0 r1 => ocons r1 fun a1 r2 => ocons r2 fun a2 r3 => onil r3 (obind (argV (T := T) 41 a0) fun y0 => obind (argV (T := T) 3 a1) fun from1 => obind (argV (T := T) 3 a2) fun to2 => spec_l18Shift n y0 from1 to2)
def spec_l18Shift_ent (n : Nat) : Ent T := ⟨97, 15, [], List (List Int), spec_l18Shift_D n, spec_l18Shift_enc⟩
def spec_DoYard_D (n : Nat) (r0 : List (A T)) : Option (SYard × Int × Int) := ocons r0 fun a0 r1 => ocons r1 fun a1 r2 => onil r2 (obind (argV (T := T) 41 a0) fun y0 => obind (argV (T := T) 45 a1) fun op1 => spec_DoYard n y0 op1)
def spec_DoYard_ent (n : Nat) : Ent T := ⟨20, 16, [], SYard × Int × Int, spec_DoYard_D n, spec_DoYard_enc⟩
def spec_RunYard_D (n : Nat) (r0 : List (A T)) : Option (SYard × List Int × Int) := ocons r0 fun a0 r1 => ocons r1 fun a1 r2 => onil r2 (obind (argV (T := T) 41 a0) fun y0 => obind (argV (T := T) 54 a1) fun ops1 => spec_RunYard n y0 ops1)
def spec_RunYard_ent (n : Nat) : Ent T := ⟨28, 17, [], SYard × List Int × Int, spec_RunYard_D n, spec_RunYard_enc⟩
def impl_own_int_D (n : Nat) (r0 : List (A T)) : Option (List (List Int)) := ocons r0 fun a0 r1 => onil r1 (obind (argV (T := T) 35 a0) fun l0 => impl_own_int n l0)
def impl_own_int_ent (n : Nat) : Ent T := ⟨182, 18, [], List (List Int), impl_own_int_D n, impl_own_int_enc⟩
def impl_own_int_f104_D (n : Nat) (r0 : List (A T)) : Option (List Int) := ocons r0 fun a0 r1 => onil r1 (obind (argV (T := T) 23 a0) fun l0 => impl_own_int_f104 n l0)
def impl_own_int_f104_ent (n : Nat) : Ent T := ⟨104, 19, [], List Int, impl_own_int_f104_D n, impl_own_int_f104_enc⟩
def impl_Yard_own_D (n : Nat) (r0 : List (A T)) : Option SYard := ocons r0 fun a0 r1 => onil r1 (obind (argV (T := T) 41 a0) fun y0 => impl_Yard_own n y0)
def impl_Yard_own_ent (n : Nat) : Ent T := ⟨99, 20, [], SYard, impl_Yard_own_D n, impl_Yard_own_enc⟩
def impl_in_D (n : Nat) (r0 : List (A T)) : Option Bool := ocons r0 fun a0 r1 => ocons r1 fun a1 r2 => ocons r2 fun a2 r3 => onil r3 (obind (argV (T := T) 3 a0) fun n0 => obind (argV (T := T) 3 a1) fun least1 => obind (argV (T := T) 3 a2) fun most2 => impl_in n n0 least1 most2)
def impl_in_ent (n : Nat) : Ent T := ⟨101, 21, [], Bool, impl_in_D n, impl_in_enc⟩
def impl_idRight_D (n : Nat) (r0 : List (A T)) : Option Bool := ocons r0 fun a0 r1 => onil r1 (obind (argV (T := T) 3 a0) fun n0 => impl_idRight n n0)
def impl_idRight_ent (n : Nat) : Ent T := ⟨102, 22, [], Bool, impl_idRight_D n, impl_idRight_enc⟩
def impl_YardOk_D (n : Nat) (r0 : List (A T)) : Option Bool := ocons r0 fun a0 r1 => onil r1 (obind (argV (T := T) 41 a0) fun y0 => impl_YardOk n y0)
def impl_YardOk_ent (n : Nat) : Ent T := ⟨100, 23, [], Bool, impl_YardOk_D n, impl_YardOk_enc⟩
def slices_Index_int_int_D (n : Nat) (r0 : List (A T)) : Option Int := ocons r0 fun a0 r1 => ocons r1 fun a1 r2 => onil r2 (obind (argV (T := T) 23 a0) fun s0 => obind (argV (T := T) 3 a1) fun v1 => slices_Index_int_int n s0 v1)
def slices_Index_int_int_ent (n : Nat) : Ent T := ⟨179, 24, [], Int, slices_Index_int_int_D n, slices_Index_int_int_enc⟩
def impl_FindBox_D (n : Nat) (r0 : List (A T)) : Option (Int × Int × Bool) := ocons r0 fun a0 r1 => ocons r1 fun a1 r2 => onil r2 (obind (argV (T := T) 41 a0) fun y0 => obind (argV (T := T) 3 a1) fun box1 => impl_FindBox n y0 box1)
def impl_FindBox_ent (n : Nat) : Ent T := ⟨103, 25, [], Int × Int × Bool, impl_FindBox_D n, impl_FindBox_enc⟩
def impl_Yard_lift_D (n : Nat) (r0 : List (A T)) : Option (List (List Int)) := ocons r0 fun a0 r1 => ocons r1 fun a1 r2 => ocons r2 fun a2 r3 => onil r3 (obind (argV (T := T) 41 a0) fun y0 => obind (argV (T := T) 3 a1) fun from1 => obind (argV (T := T) 3 a2) fun to2 => impl_Yard_lift n y0 from1 to2)
def impl_Yard_lift_ent (n : Nat) : Ent T := ⟨105, 26, [], List (List Int), impl_Yard_lift_D n, impl_Yard_lift_enc⟩
def impl_DoYard_D (n : Nat) (r0 : List (A T)) : Option (SYard × Int × Int) := ocons r0 fun a0 r1 => ocons r1 fun a1 r2 => onil r2 (obind (argV (T := T) 41 a0) fun y0 => obind (argV (T := T) 45 a1) fun op1 => impl_DoYard n y0 op1)
def impl_DoYard_ent (n : Nat) : Ent T := ⟨23, 27, [], SYard × Int × Int, impl_DoYard_D n, impl_DoYard_enc⟩
def impl_RunYard_D (n : Nat) (r0 : List (A T)) : Option (SYard × List Int × Int) := ocons r0 fun a0 r1 => ocons r1 fun a1 r2 => onil r2 (obind (argV (T := T) 41 a0) fun y0 => obind (argV (T := T) 54 a1) fun ops1 => impl_RunYard n y0 ops1)
def impl_RunYard_ent (n : Nat) : Ent T := ⟨30, 28, [], SYard × List Int × Int, impl_RunYard_D n, impl_RunYard_enc⟩
def laws_eqIntS_D (n : Nat) (r0 : List (A T)) : Option Bool := ocons r0 fun a0 r1 => ocons r1 fun a1 r2 => onil r2 (obind (argV (T := T) 23 a0) fun a0 => obind (argV (T := T) 23 a1) fun b1 => laws_eqIntS n a0 b1)
def laws_eqIntS_ent (n : Nat) : Ent T := ⟨31, 29, [], Bool, laws_eqIntS_D n, laws_eqIntS_enc⟩
def laws_eqIntSS_D (n : Nat) (r0 : List (A T)) : Option Bool := ocons r0 fun a0 r1 => ocons r1 fun a1 r2 => onil r2 (obind (argV (T := T) 35 a0) fun a0 => obind (argV (T := T) 35 a1) fun b1 => laws_eqIntSS n a0 b1)
def laws_eqIntSS_ent (n : Nat) : Ent T := ⟨106, 30, [], Bool, laws_eqIntSS_D n, laws_eqIntSS_enc⟩
def laws_eqYard_D (n : Nat) (r0 : List (A T)) : Option Bool := ocons r0 fun a0 r1 => ocons r1 fun a1 r2 => onil r2 (obind (argV (T := T) 41 a0) fun a0 => obind (argV (T := T) 41 a1) fun b1 => laws_eqYard n a0 b1)
def laws_eqYard_ent (n : Nat) : Ent T := ⟨24, 31, [], Bool, laws_eqYard_D n, laws_eqYard_enc⟩
def laws_eqYardOp_D (n : Nat) (r0 : List (A T)) : Option Bool := ocons r0 fun a0 r1 => ocons r1 fun a1 r2 => onil r2 (obind (argV (T := T) 45 a0) fun a0 => obind (argV (T := T) 45 a1) fun b1 => laws_eqYardOp n a0 b1)
def laws_eqYardOp_ent (n : Nat) : Ent T := ⟨109, 32, [], Bool, laws_eqYardOp_D n, laws_eqYardOp_enc⟩
def laws_eqYardOpS_D (n : Nat) (r0 : List (A T)) : Option Bool := ocons r0 fun a0 r1 => ocons r1 fun a1 r2 => onil r2 (obind (argV (T := T) 54 a0) fun a0 => obind (argV (T := T) 54 a1) fun b1 => laws_eqYardOpS n a0 b1)
def laws_eqYardOpS_ent (n : Nat) : Ent T := ⟨32, 33, [], Bool, laws_eqYardOpS_D n, laws_eqYardOpS_enc⟩
def laws_markIntS_D (n : Nat) (r0 : List (A T)) : Option (Int × List Int) := ocons r0 fun a0 r1 => ocons r1 fun a1 r2 => onil r2 (obind (argV (T := T) 23 a0) fun a0 => obind (argV (T := T) 3 a1) fun k1 => laws_markIntS n a0 k1)
def laws_markIntS_ent (n : Nat) : Ent T := ⟨34, 34, [], Int × List Int, laws_markIntS_D n, laws_markIntS_enc⟩
def laws_markIntSS_D (n : Nat) (r0 : List (A T)) : Option (Int × List (List Int)) := ocons r0 fun a0 r1 => ocons r1 fun a1 r2 => onil r2 (obind (argV (T := T) 35 a0) fun a0 => obind (argV (T := T) 3 a1) fun k1 => laws_markIntSS n a0 k1)
def laws_markIntSS_ent (n : Nat) : Ent T := ⟨107, 35, [], Int × List (List Int), laws_markIntSS_D n, laws_markIntSS_enc⟩
def laws_markYard_D (n : Nat) (r0 : List (A T)) : Option (Int × List (List Int)) := ocons r0 fun a0 r1 => ocons r1 fun a1 r2 => onil r2 (obind (argV (T := T) 41 a0) fun a0 => obind (argV (T := T) 3 a1) fun k1 => laws_markYard n a0 k1)
def laws_markYard_ent (n : Nat) : Ent T := ⟨25, 36, [], Int × List (List Int), laws_markYard_D n, laws_markYard_enc⟩
def laws_markYardOpS_D (n : Nat) (r0 : List (A T)) : Option (Int × List SYardOp) := ocons r0 fun a0 r1 => ocons r1 fun a1 r2 => onil r2 (obind (argV (T := T) 54 a0) fun a0 => obind (argV (T := T) 3 a1) fun k1 => laws_markYardOpS n a0 k1)
def laws_markYardOpS_ent (n : Nat) : Ent T := ⟨33, 37, [], Int × List SYardOp, laws_markYardOpS_D n, laws_markYardOpS_enc⟩
def laws_heldIntS_D (n : Nat) (r0 : List (A T)) : Option Int := ocons r0 fun a0 r1 => ocons r1 fun a1 r2 => onil r2 (obind (argV (T := T) 23 a0) fun a0 => obind (argV (T := T) 3 a1) fun k1 => laws_heldIntS n a0 k1)
def laws_heldIntS_ent (n : Nat) : Ent T := ⟨35, 38, [], Int, laws_heldIntS_D n, laws_heldIntS_enc⟩
def laws_heldIntSS_D (n : Nat) (r0 : List (A T)) : Option Int := ocons r0 fun a0 r1 => ocons r1 fun a1 r2 => onil r2 (obind (argV (T := T) 35 a0) fun a0 => obind (argV (T := T) 3 a1) fun k1 => laws_heldIntSS n a0 k1)
def laws_heldIntSS_ent (n : Nat) : Ent T := ⟨108, 39, [], Int, laws_heldIntSS_D n, laws_heldIntSS_enc⟩
def laws_heldYard_D (n : Nat) (r0 : List (A T)) : Option Int := ocons r0 fun a0 r1 => ocons r1 fun a1 r2 => onil r2 (obind (argV (T := T) 41 a0) fun a0 => obind (argV (T := T) 3 a1) fun k1 => laws_heldYard n a0 k1)
def laws_heldYard_ent (n : Nat) : Ent T := ⟨26, 40, [], Int, laws_heldYard_D n, laws_heldYard_enc⟩
def laws_FnExactRunYard_D (n : Nat) (r0 : List (A T)) : Option Bool := ocons r0 fun a0 r1 => ocons r1 fun a1 r2 => onil r2 (obind (argV (T := T) 37 a0) fun aY0 => obind (argV (T := T) 50 a1) fun aOps1 => laws_FnExactRunYard n aY0 aOps1)
def laws_FnExactRunYard_ent (n : Nat) : Ent T := ⟨5, 41, [], Bool, laws_FnExactRunYard_D n, laws_FnExactRunYard_enc⟩
def ents (n : Nat) : List (Ent T) := [laws_szIntS_ent n, laws_szIntSS_ent n, laws_szYard_ent n, laws_szYardOpS_ent n, laws_toIntS_ent n, laws_toIntSS_ent n, laws_toYard_ent n, laws_toYardOp_ent n, laws_toYardOpS_ent n, spec_l18Copy_ent n, spec_l1In_ent n, spec_l18Count_ent n, spec_YardOk_ent n, spec_l18Op_ent n, spec_FindBox_ent n, spec_l18Shift_ent n, spec_DoYard_ent n, spec_RunYard_ent n, impl_own_int_ent n, impl_own_int_f104_ent n, impl_Yard_own_ent n, impl_in_ent n, impl_idRight_ent n, impl_YardOk_ent n, slices_Index_int_int_ent n, impl_FindBox_ent n, impl_Yard_lift_ent n, impl_DoYard_ent n, impl_RunYard_ent n, laws_eqIntS_ent n, laws_eqIntSS_ent n, laws_eqYard_ent n, laws_eqYardOp_ent n, laws_eqYardOpS_ent n, laws_markIntS_ent n, laws_markIntSS_ent n, laws_markYard_ent n, laws_markYardOpS_ent n, laws_heldIntS_ent n, laws_heldIntSS_ent n, laws_heldYard_ent n, laws_FnExactRunYard_ent n]
abbrev Phi (n i : Nat) {R : Type} (f : Nat) (ar : List (A T)) (K : Res T → Option R) : Option R := PhiE (ents n) i f ar K
theorem mixed : Try.prog.follows .mixedOrders = true := by kernel_rfl
noncomputable def laws_szIntS_code : Code := match Try.f83.body with | some c => c | none => .skip
def laws_szIntS_ann : Ann := fun id => none
def laws_szIntS_Ls (n : Nat) : Nat → Option (LSpec T) := fun id => none
theorem laws_szIntS_tie (n : Nat) (a0 : List Int) (left1 : Int) : evF (T := T) (Phi n 0) (laws_szIntS_Ls n) laws_szIntS_ann n Try.f83 (sg 83) [vA T 23 a0, vA T 3 left1] laws_szIntS_dec = laws_szIntS n a0 left1 := by kernel_rfl
theorem laws_szIntS_lo (n : Nat) : LoopsOk (T := T) (Phi n 0) (laws_szIntS_Ls n) laws_szIntS_ann n laws_szIntS_code := loopsOk_all (cs := []) (by kernel_rfl) trivial
theorem laws_szIntS_ok (n : Nat) : EntOk Try.prog (ents n) (laws_szIntS_ent n) := by
  intro hs ar y hg h
  replace h : laws_szIntS_D n ar = some y := h
  unfold laws_szIntS_D at h
  replace h := ocons_some h
  obtain ⟨a0, r0, rfl, h⟩ := h
  replace h := ocons_some h
  obtain ⟨a1, r1, rfl, h⟩ := h
  replace h := onil_some h
  obtain ⟨rfl, h⟩ := h
  obtain ⟨a0, qh0, h⟩ := obind_some h
  obtain ⟨left1, qh1, h⟩ := obind_some h
  rw [argV_eq ok qh0, argV_eq ok qh1]
  exact call_of (phiE_nat _ _) hs ok mixed Try.func83 (c := laws_szIntS_code) (by kernel_rfl) (laws_szIntS_lo n) (by kernel_rfl) (by kernel_rfl) (by kernel_rfl) laws_szIntS_de ((laws_szIntS_tie n a0 left1).trans h)
noncomputable def laws_szIntSS_code : Code := match Try.f92.body with | some c => c | none => .skip
def laws_szIntSS_5_sv : List Sv := [.one (.arr 23), .one (.int .i64), .one (.int .i64)]
def laws_szIntSS_5_so : List So := []
def laws_szIntSS_5_emb (c : List (List Int)) (x : Int × Int) : EVs T laws_szIntSS_5_sv × EOs T laws_szIntSS_5_so := ((c, x.1, x.2, ()), ())
def laws_szIntSS_5_prj (y : EVs T laws_szIntSS_5_sv × EOs T laws_szIntSS_5_so) : List (List Int) × (Int × Int) := ((y.1.1), (y.1.2.1, y.1.2.2.1))
def laws_szIntSS_5_b (n : Nat) {R : Type} (K : Ex → Sm.St T → Option R) (c : List (List Int)) (x : Int × Int) (J : (Int × Int) → Option R) : Option R :=
  laws_szIntSS_L5 n (fun (y0 : Int) => K (.exit 0) (stOf (T := T) [1] [] [.one (.int .i64)] [] (y0, ()) ())) (fun (y0 : Int) => K .ret (stOf (T := T) [4] [] [.one (.int .i64)] [] (y0, ()) ())) (fun z0 z1 => J (z0, z1)) c x.1 x.2
def laws_szIntSS_5_sp (n : Nat) : LSpec T := mkSpec T ⟨[], [0, 1, 5], []⟩ laws_szIntSS_5_sv laws_szIntSS_5_so (List (List Int)) (Int × Int) laws_szIntSS_5_emb laws_szIntSS_5_prj (laws_szIntSS_5_b n)
noncomputable def laws_szIntSS_5_c : Code := ((loopCodes laws_szIntSS_code)[0]?).getD .skip
def laws_szIntSS_ann : Ann := fun id => bif Nat.beq id 3000005 then some ⟨[], [1], []⟩ else bif Nat.beq id 2000005 then some ⟨[], [4], []⟩ else none
def laws_szIntSS_Ls (n : Nat) : Nat → Option (LSpec T) := fun id => bif Nat.beq id 5 then some (laws_szIntSS_5_sp n) else none
theorem laws_szIntSS_5_le (n : Nat) : LoopEq (T := T) (Phi n 1) (laws_szIntSS_Ls n) laws_szIntSS_ann n laws_szIntSS_5_c (laws_szIntSS_5_sp n) := ⟨mkSpec_dec (fun y => rfl), fun c x => by kernel_rfl, fun K J c x => by kernel_rfl⟩
theorem laws_szIntSS_tie (n : Nat) (a0 : List (List Int)) (left1 : Int) : evF (T := T) (Phi n 1) (laws_szIntSS_Ls n) laws_szIntSS_ann n Try.f92 (sg 92) [vA T 35 a0, vA T 3 left1] laws_szIntSS_dec = laws_szIntSS n a0 left1 := by kernel_rfl
theorem laws_szIntSS_lo (n : Nat) : LoopsOk (T := T) (Phi n 1) (laws_szIntSS_Ls n) laws_szIntSS_ann n laws_szIntSS_code := loopsOk_all (cs := [laws_szIntSS_5_c]) (by kernel_rfl) ⟨⟨_, by kernel_rfl, laws_szIntSS_5_le n⟩, trivial⟩
theorem laws_szIntSS_ok (n : Nat) : EntOk Try.prog (ents n) (laws_szIntSS_ent n) := by
  intro hs ar y hg h
  replace h : laws_szIntSS_D n ar = some y := h
  unfold laws_szIntSS_D at h
  replace h := ocons_some h
  obtain ⟨a0, r0, rfl, h⟩ := h
  replace h := ocons_some h
  obtain ⟨a1, r1, rfl, h⟩ := h
  replace h := onil_some h
  obtain ⟨rfl, h⟩ := h
  obtain ⟨a0, qh0, h⟩ := obind_some h
  obtain ⟨left1, qh1, h⟩ := obind_some h
  rw [argV_eq ok qh0, argV_eq ok qh1]
  exact call_of (phiE_nat _ _) hs ok mixed Try.func92 (c := laws_szIntSS_code) (by kernel_rfl) (laws_szIntSS_lo n) (by kernel_rfl) (by kernel_rfl) (by kernel_rfl) laws_szIntSS_de ((laws_szIntSS_tie n a0 left1).trans h)
noncomputable def laws_szYard_code : Code := match Try.f19.body with | some c => c | none => .skip
def laws_szYard_ann : Ann := fun id => none
def laws_szYard_Ls (n : Nat) : Nat → Option (LSpec T) := fun id => none
theorem laws_szYard_tie (n : Nat) (a0 : SYard) (left1 : Int) : evF (T := T) (Phi n 2) (laws_szYard_Ls n) laws_szYard_ann n Try.f19 (sg 19) [vA T 37 a0, vA T 3 left1] laws_szYard_dec = laws_szYard n a0 left1 := by kernel_rfl
theorem laws_szYard_lo (n : Nat) : LoopsOk (T := T) (Phi n 2) (laws_szYard_Ls n) laws_szYard_ann n laws_szYard_code := loopsOk_all (cs := []) (by kernel_rfl) trivial
theorem laws_szYard_ok (n : Nat) : EntOk Try.prog (ents n) (laws_szYard_ent n) := by
  intro hs ar y hg h
  replace h : laws_szYard_D n ar = some y := h
  unfold laws_szYard_D at h
  replace h := ocons_some h
  obtain ⟨a0, r0, rfl, h⟩ := h
  replace h := ocons_some h
  obtain ⟨a1, r1, rfl, h⟩ := h
  replace h := onil_some h
  obtain ⟨rfl, h⟩ := h
  obtain ⟨a0, qh0, h⟩ := obind_some h
  obtain ⟨left1, qh1, h⟩ := obind_some h
  rw [argV_eq ok qh0, argV_eq ok qh1]
  exact call_of (phiE_nat _ _) hs ok mixed Try.func19 (c := laws_szYard_code) (by kernel_rfl) (laws_szYard_lo n) (by kernel_rfl) (by kernel_rfl) (by kernel_rfl) laws_szYard_de ((laws_szYard_tie n a0 left1).trans h)
noncomputable def laws_szYardOpS_code : Code := match Try.f27.body with | some c => c | none => .skip
def laws_szYardOpS_ann : Ann := fun id => none
def laws_szYardOpS_Ls (n : Nat) : Nat → Option (LSpec T) := fun id => none
theorem laws_szYardOpS_tie (n : Nat) (a0 : List SYardOp) (left1 : Int) : evF (T := T) (Phi n 3) (laws_szYardOpS_Ls n) laws_szYardOpS_ann n Try.f27 (sg 27) [vA T 50 a0, vA T 3 left1] laws_szYardOpS_dec = laws_szYardOpS n a0 left1 := by kernel_rfl
theorem laws_szYardOpS_lo (n : Nat) : LoopsOk (T := T) (Phi n 3) (laws_szYardOpS_Ls n) laws_szYardOpS_ann n laws_szYardOpS_code := loopsOk_all (cs := []) (by kernel_rfl) trivial
theorem laws_szYardOpS_ok (n : Nat) : EntOk Try.prog (ents n) (laws_szYardOpS_ent n) := by
  intro hs ar y hg h
  replace h : laws_szYardOpS_D n ar = some y := h
  unfold laws_szYardOpS_D at h
  replace h := ocons_some h
  obtain ⟨a0, r0, rfl, h⟩ := h
  replace h := ocons_some h
  obtain ⟨a1, r1, rfl, h⟩ := h
  replace h := onil_some h
  obtain ⟨rfl, h⟩ := h
  obtain ⟨a0, qh0, h⟩ := obind_some h
  obtain ⟨left1, qh1, h⟩ := obind_some h
  rw [argV_eq ok qh0, argV_eq ok qh1]
  exact call_of (phiE_nat _ _) hs ok mixed Try.func27 (c := laws_szYardOpS_code) (by kernel_rfl) (laws_szYardOpS_lo n) (by kernel_rfl) (by kernel_rfl) (by kernel_rfl) laws_szYardOpS_de ((laws_szYardOpS_tie n a0 left1).trans h)
noncomputable def laws_toIntS_code : Code := match Try.f88.body with | some c => c | none => .skip
def laws_toIntS_3_sv : List Sv := [.one (.arr 3), .one (.own 3000000 3 false), .one (.int .i64)]
def laws_toIntS_3_so : List So := [.arr 3 false]
def laws_toIntS_3_emb (c : List Int) (x : Int × List Int) : EVs T laws_toIntS_3_sv × EOs T laws_toIntS_3_so := ((c, (), x.1, ()), (x.2, ()))
def laws_toIntS_3_prj (y : EVs T laws_toIntS_3_sv × EOs T laws_toIntS_3_so) : List Int × (Int × List Int) := ((y.1.1), (y.1.2.2.1, y.2.1))
def laws_toIntS_3_b (n : Nat) {R : Type} (K : Ex → Sm.St T → Option R) (c : List Int) (x : Int × List Int) (J : (Int × List Int) → Option R) : Option R :=
  laws_toIntS_L3 n (fun (y0 : List Int) => K (.exit 0) (stOf (T := T) [3] [3000000] [.one (.own 3000000 3 false)] [.arr 3 false] ((), ()) (y0, ()))) (fun z0 z1 => J (z0, z1)) c x.1 x.2
def laws_toIntS_3_sp (n : Nat) : LSpec T := mkSpec T ⟨[((.reg 3), 3000000, 3)], [0, 3, 4], [3000000]⟩ laws_toIntS_3_sv laws_toIntS_3_so (List Int) (Int × List Int) laws_toIntS_3_emb laws_toIntS_3_prj (laws_toIntS_3_b n)
noncomputable def laws_toIntS_3_c : Code := ((loopCodes laws_toIntS_code)[0]?).getD .skip
def laws_toIntS_ann : Ann := fun id => bif Nat.beq id 3000003 then some ⟨[((.reg 3), 3000000, 3)], [3], [3000000]⟩ else none
def laws_toIntS_Ls (n : Nat) : Nat → Option (LSpec T) := fun id => bif Nat.beq id 3 then some (laws_toIntS_3_sp n) else none
theorem laws_toIntS_3_le (n : Nat) : LoopEq (T := T) (Phi n 4) (laws_toIntS_Ls n) laws_toIntS_ann n laws_toIntS_3_c (laws_toIntS_3_sp n) := ⟨mkSpec_dec (fun y => rfl), fun c x => by kernel_rfl, fun K J c x => by kernel_rfl⟩
theorem laws_toIntS_tie (n : Nat) (a0 : List Int) : evF (T := T) (Phi n 4) (laws_toIntS_Ls n) laws_toIntS_ann n Try.f88 (sg 88) [vA T 23 a0] laws_toIntS_dec = laws_toIntS n a0 := by kernel_rfl
theorem laws_toIntS_lo (n : Nat) : LoopsOk (T := T) (Phi n 4) (laws_toIntS_Ls n) laws_toIntS_ann n laws_toIntS_code := loopsOk_all (cs := [laws_toIntS_3_c]) (by kernel_rfl) ⟨⟨_, by kernel_rfl, laws_toIntS_3_le n⟩, trivial⟩
theorem laws_toIntS_ok (n : Nat) : EntOk Try.prog (ents n) (laws_toIntS_ent n) := by
  intro hs ar y hg h
  replace h : laws_toIntS_D n ar = some y := h
  unfold laws_toIntS_D at h
  replace h := ocons_some h
  obtain ⟨a0, r0, rfl, h⟩ := h
  replace h := onil_some h
  obtain ⟨rfl, h⟩ := h
  obtain ⟨a0, qh0, h⟩ := obind_some h
  rw [argV_eq ok qh0]
  exact call_of (phiE_nat _ _) hs ok mixed Try.func88 (c := laws_toIntS_code) (by kernel_rfl) (laws_toIntS_lo n) (by kernel_rfl) (by kernel_rfl) (by kernel_rfl) laws_toIntS_de ((laws_toIntS_tie n a0).trans h)
noncomputable def laws_toIntSS_code : Code := match Try.f98.body with | some c => c | none => .skip
def laws_toIntSS_3_sv : List Sv := [.one (.arr 23), .one (.own 3000000 23 false), .one (.int .i64)]
def laws_toIntSS_3_so : List So := [.arr 23 false]
def laws_toIntSS_3_emb (c : List (List Int)) (x : Int × List (List Int)) : EVs T laws_toIntSS_3_sv × EOs T laws_toIntSS_3_so := ((c, (), x.1, ()), (x.2, ()))
def laws_toIntSS_3_prj (y : EVs T laws_toIntSS_3_sv × EOs T laws_toIntSS_3_so) : List (List Int) × (Int × List (List Int)) := ((y.1.1), (y.1.2.2.1, y.2.1))
def laws_toIntSS_3_b (n : Nat) {R : Type} (K : Ex → Sm.St T → Option R) (c : List (List Int)) (x : Int × List (List Int)) (J : (Int × List (List Int)) → Option R) : Option R :=
  laws_toIntSS_L3 n (fun (y0 : List (List Int)) => K (.exit 0) (stOf (T := T) [3] [3000000] [.one (.own 3000000 23 false)] [.arr 23 false] ((), ()) (y0, ()))) (fun z0 z1 => J (z0, z1)) c x.1 x.2
def laws_toIntSS_3_sp (n : Nat) : LSpec T := mkSpec T ⟨[((.reg 3), 3000000, 23)], [0, 3, 4], [3000000]⟩ laws_toIntSS_3_sv laws_toIntSS_3_so (List (List Int)) (Int × List (List Int)) laws_toIntSS_3_emb laws_toIntSS_3_prj (laws_toIntSS_3_b n)
noncomputable def laws_toIntSS_3_c : Code := ((loopCodes laws_toIntSS_code)[0]?).getD .skip
def laws_toIntSS_ann : Ann := fun id => bif Nat.beq id 3000003 then some ⟨[((.reg 3), 3000000, 23)], [3], [3000000]⟩ else none
def laws_toIntSS_Ls (n : Nat) : Nat → Option (LSpec T) := fun id => bif Nat.beq id 3 then some (laws_toIntSS_3_sp n) else none
theorem laws_toIntSS_3_le (n : Nat) : LoopEq (T := T) (Phi n 5) (laws_toIntSS_Ls n) laws_toIntSS_ann n laws_toIntSS_3_c (laws_toIntSS_3_sp n) := ⟨mkSpec_dec (fun y => rfl), fun c x => by kernel_rfl, fun K J c x => by kernel_rfl⟩
theorem laws_toIntSS_tie (n : Nat) (a0 : List (List Int)) : evF (T := T) (Phi n 5) (laws_toIntSS_Ls n) laws_toIntSS_ann n Try.f98 (sg 98) [vA T 35 a0] laws_toIntSS_dec = laws_toIntSS n a0 := by kernel_rfl
theorem laws_toIntSS_lo (n : Nat) : LoopsOk (T := T) (Phi n 5) (laws_toIntSS_Ls n) laws_toIntSS_ann n laws_toIntSS_code := loopsOk_all (cs := [laws_toIntSS_3_c]) (by kernel_rfl) ⟨⟨_, by kernel_rfl, laws_toIntSS_3_le n⟩, trivial⟩
theorem laws_toIntSS_ok (n : Nat) : EntOk Try.prog (ents n) (laws_toIntSS_ent n) := by
  intro hs ar y hg h
  replace h : laws_toIntSS_D n ar = some y := h
  unfold laws_toIntSS_D at h
  replace h := ocons_some h
  obtain ⟨a0, r0, rfl, h⟩ := h
  replace h := onil_some h
  obtain ⟨rfl, h⟩ := h
  obtain ⟨a0, qh0, h⟩ := obind_some h
  rw [argV_eq ok qh0]
  exact call_of (phiE_nat _ _) hs ok mixed Try.func98 (c := laws_toIntSS_code) (by kernel_rfl) (laws_toIntSS_lo n) (by kernel_rfl) (by kernel_rfl) (by kernel_rfl) laws_toIntSS_de ((laws_toIntSS_tie n a0).trans h)
noncomputable def laws_toYard_code : Code := match Try.f21.body with | some c => c | none => .skip
def laws_toYard_ann : Ann := fun id => none
def laws_toYard_Ls (n : Nat) : Nat → Option (LSpec T) := fun id => none
theorem laws_toYard_tie (n : Nat) (a0 : SYard) : evF (T := T) (Phi n 6) (laws_toYard_Ls n) laws_toYard_ann n Try.f21 (sg 21) [vA T 37 a0] laws_toYard_dec = laws_toYard n a0 := by kernel_rfl
theorem laws_toYard_lo (n : Nat) : LoopsOk (T := T) (Phi n 6) (laws_toYard_Ls n) laws_toYard_ann n laws_toYard_code := loopsOk_all (cs := []) (by kernel_rfl) trivial
theorem laws_toYard_ok (n : Nat) : EntOk Try.prog (ents n) (laws_toYard_ent n) := by
  intro hs ar y hg h
  replace h : laws_toYard_D n ar = some y := h
  unfold laws_toYard_D at h
  replace h := ocons_some h
  obtain ⟨a0, r0, rfl, h⟩ := h
  replace h := onil_some h
  obtain ⟨rfl, h⟩ := h
  obtain ⟨a0, qh0, h⟩ := obind_some h
  rw [argV_eq ok qh0]
  exact call_of (phiE_nat _ _) hs ok mixed Try.func21 (c := laws_toYard_code) (by kernel_rfl) (laws_toYard_lo n) (by kernel_rfl) (by kernel_rfl) (by kernel_rfl) laws_toYard_de ((laws_toYard_tie n a0).trans h)
noncomputable def laws_toYardOp_code : Code := match Try.f22.body with | some c => c | none => .skip
def laws_toYardOp_ann : Ann := fun id => none
def laws_toYardOp_Ls (n : Nat) : Nat → Option (LSpec T) := fun id => none
theorem laws_toYardOp_tie (n : Nat) (a0 : SYardOp) : evF (T := T) (Phi n 7) (laws_toYardOp_Ls n) laws_toYardOp_ann n Try.f22 (sg 22) [vA T 39 a0] laws_toYardOp_dec = laws_toYardOp n a0 := by kernel_rfl
theorem laws_toYardOp_lo (n : Nat) : LoopsOk (T := T) (Phi n 7) (laws_toYardOp_Ls n) laws_toYardOp_ann n laws_toYardOp_code := loopsOk_all (cs := []) (by kernel_rfl) trivial
theorem laws_toYardOp_ok (n : Nat) : EntOk Try.prog (ents n) (laws_toYardOp_ent n) := by
  intro hs ar y hg h
  replace h : laws_toYardOp_D n ar = some y := h
  unfold laws_toYardOp_D at h
  replace h := ocons_some h
  obtain ⟨a0, r0, rfl, h⟩ := h
  replace h := onil_some h
  obtain ⟨rfl, h⟩ := h
  obtain ⟨a0, qh0, h⟩ := obind_some h
  rw [argV_eq ok qh0]
  exact call_of (phiE_nat _ _) hs ok mixed Try.func22 (c := laws_toYardOp_code) (by kernel_rfl) (laws_toYardOp_lo n) (by kernel_rfl) (by kernel_rfl) (by kernel_rfl) laws_toYardOp_de ((laws_toYardOp_tie n a0).trans h)
noncomputable def laws_toYardOpS_code : Code := match Try.f29.body with | some c => c | none => .skip
def laws_toYardOpS_3_sv : List Sv := [.one (.arr 39), .one (.own 3000000 45 false), .one (.int .i64)]
def laws_toYardOpS_3_so : List So := [.arr 45 false]
def laws_toYardOpS_3_emb (c : List SYardOp) (x : Int × List SYardOp) : EVs T laws_toYardOpS_3_sv × EOs T laws_toYardOpS_3_so := ((c, (), x.1, ()), (x.2, ()))
def laws_toYardOpS_3_prj (y : EVs T laws_toYardOpS_3_sv × EOs T laws_toYardOpS_3_so) : List SYardOp × (Int × List SYardOp) := ((y.1.1), (y.1.2.2.1, y.2.1))
def laws_toYardOpS_3_b (n : Nat) {R : Type} (K : Ex → Sm.St T → Option R) (c : List SYardOp) (x : Int × List SYardOp) (J : (Int × List SYardOp) → Option R) : Option R :=
  laws_toYardOpS_L3 n (fun (y0 : List SYardOp) => K (.exit 0) (stOf (T := T) [3] [3000000] [.one (.own 3000000 45 false)] [.arr 45 false] ((), ()) (y0, ()))) (fun z0 z1 => J (z0, z1)) c x.1 x.2
def laws_toYardOpS_3_sp (n : Nat) : LSpec T := mkSpec T ⟨[((.reg 3), 3000000, 45)], [0, 3, 4], [3000000]⟩ laws_toYardOpS_3_sv laws_toYardOpS_3_so (List SYardOp) (Int × List SYardOp) laws_toYardOpS_3_emb laws_toYardOpS_3_prj (laws_toYardOpS_3_b n)
noncomputable def laws_toYardOpS_3_c : Code := ((loopCodes laws_toYardOpS_code)[0]?).getD .skip
def laws_toYardOpS_ann : Ann := fun id => bif Nat.beq id 3000003 then some ⟨[((.reg 3), 3000000, 45)], [3], [3000000]⟩ else none
def laws_toYardOpS_Ls (n : Nat) : Nat → Option (LSpec T) := fun id => bif Nat.beq id 3 then some (laws_toYardOpS_3_sp n) else none
theorem laws_toYardOpS_3_le (n : Nat) : LoopEq (T := T) (Phi n 8) (laws_toYardOpS_Ls n) laws_toYardOpS_ann n laws_toYardOpS_3_c (laws_toYardOpS_3_sp n) := ⟨mkSpec_dec (fun y => rfl), fun c x => by kernel_rfl, fun K J c x => by kernel_rfl⟩
theorem laws_toYardOpS_tie (n : Nat) (a0 : List SYardOp) : evF (T := T) (Phi n 8) (laws_toYardOpS_Ls n) laws_toYardOpS_ann n Try.f29 (sg 29) [vA T 50 a0] laws_toYardOpS_dec = laws_toYardOpS n a0 := by kernel_rfl
theorem laws_toYardOpS_lo (n : Nat) : LoopsOk (T := T) (Phi n 8) (laws_toYardOpS_Ls n) laws_toYardOpS_ann n laws_toYardOpS_code := loopsOk_all (cs := [laws_toYardOpS_3_c]) (by kernel_rfl) ⟨⟨_, by kernel_rfl, laws_toYardOpS_3_le n⟩, trivial⟩
theorem laws_toYardOpS_ok (n : Nat) : EntOk Try.prog (ents n) (laws_toYardOpS_ent n) := by
  intro hs ar y hg h
  replace h : laws_toYardOpS_D n ar = some y := h
  unfold laws_toYardOpS_D at h
  replace h := ocons_some h
  obtain ⟨a0, r0, rfl, h⟩ := h
  replace h := onil_some h
  obtain ⟨rfl, h⟩ := h
  obtain ⟨a0, qh0, h⟩ := obind_some h
  rw [argV_eq ok qh0]
  exact call_of (phiE_nat _ _) hs ok mixed Try.func29 (c := laws_toYardOpS_code) (by kernel_rfl) (laws_toYardOpS_lo n) (by kernel_rfl) (by kernel_rfl) (by kernel_rfl) laws_toYardOpS_de ((laws_toYardOpS_tie n a0).trans h)
noncomputable def spec_l18Copy_code : Code := match Try.f93.body with | some c => c | none => .skip
def spec_l18Copy_3_sv : List Sv := [.one (.ptr 8 0 0), .one (.ptr 16 0 0), .one (.ptr 24 0 0), .one (.int .i64)]
def spec_l18Copy_3_so : List So := [.var [.int .i64, .arr 23], .var [.int .i64, .own 3000000 23 false], .arr 23 false, .var [.int .i64, .own 3000001 23 false], .arr 23 false]
def spec_l18Copy_3_emb (c : SYard × Int × List (List Int) × Int) (x : Int × List (List Int)) : EVs T spec_l18Copy_3_sv × EOs T spec_l18Copy_3_so := (((), (), (), x.1, ()), ((c.1.High, c.1.Stacks, ()), (c.2.1, (), ()), c.2.2.1, (c.2.2.2, (), ()), x.2, ()))
def spec_l18Copy_3_prj (y : EVs T spec_l18Copy_3_sv × EOs T spec_l18Copy_3_so) : (SYard × Int × List (List Int) × Int) × (Int × List (List Int)) := ((((⟨y.2.1.1, y.2.1.2.1⟩ : SYard) : SYard), y.2.2.1.1, y.2.2.2.1, y.2.2.2.2.1.1), (y.1.2.2.2.1, y.2.2.2.2.2.1))
def spec_l18Copy_3_b (n : Nat) {R : Type} (K : Ex → Sm.St T → Option R) (c : SYard × Int × List (List Int) × Int) (x : Int × List (List Int)) (J : (Int × List (List Int)) → Option R) : Option R :=
  spec_l18Copy_L3 n (fun (y3 : List (List Int)) => K (.exit 0) (stOf (T := T) [2, 3] [16, 3000000, 24, 3000001] [.one (.ptr 16 0 0), .one (.ptr 24 0 0)] [.var [.int .i64, .own 3000000 23 false], .arr 23 false, .var [.int .i64, .own 3000001 23 false], .arr 23 false] ((), (), ()) ((c.2.1, (), ()), c.2.2.1, (c.2.2.2, (), ()), y3, ()))) (fun z0 z1 => J (z0, z1)) x.1 c.1 c.2.1 c.2.2.1 c.2.2.2 x.2
def spec_l18Copy_3_sp (n : Nat) : LSpec T := mkSpec T ⟨[((.cell 16 1), 3000000, 23), ((.cell 24 1), 3000001, 23)], [1, 2, 3, 4], [8, 16, 3000000, 24, 3000001]⟩ spec_l18Copy_3_sv spec_l18Copy_3_so (SYard × Int × List (List Int) × Int) (Int × List (List Int)) spec_l18Copy_3_emb spec_l18Copy_3_prj (spec_l18Copy_3_b n)
noncomputable def spec_l18Copy_3_c : Code := ((loopCodes spec_l18Copy_code)[0]?).getD .skip
def spec_l18Copy_ann : Ann := fun id => bif Nat.beq id 3000003 then some ⟨[((.cell 16 1), 3000000, 23), ((.cell 24 1), 3000001, 23)], [2, 3], [16, 3000000, 24, 3000001]⟩ else none
def spec_l18Copy_Ls (n : Nat) : Nat → Option (LSpec T) := fun id => bif Nat.beq id 3 then some (spec_l18Copy_3_sp n) else none
theorem spec_l18Copy_3_le (n : Nat) : LoopEq (T := T) (Phi n 9) (spec_l18Copy_Ls n) spec_l18Copy_ann n spec_l18Copy_3_c (spec_l18Copy_3_sp n) := ⟨mkSpec_dec (fun y => rfl), fun c x => by kernel_rfl, fun K J c x => by kernel_rfl⟩
theorem spec_l18Copy_tie (n : Nat) (y0 : SYard) : evF (T := T) (Phi n 9) (spec_l18Copy_Ls n) spec_l18Copy_ann n Try.f93 (sg 93) [vA T 41 y0] spec_l18Copy_dec = spec_l18Copy n y0 := by kernel_rfl
theorem spec_l18Copy_lo (n : Nat) : LoopsOk (T := T) (Phi n 9) (spec_l18Copy_Ls n) spec_l18Copy_ann n spec_l18Copy_code := loopsOk_all (cs := [spec_l18Copy_3_c]) (by kernel_rfl) ⟨⟨_, by kernel_rfl, spec_l18Copy_3_le n⟩, trivial⟩
theorem spec_l18Copy_ok (n : Nat) : EntOk Try.prog (ents n) (spec_l18Copy_ent n) := by
  intro hs ar y hg h
  replace h : spec_l18Copy_D n ar = some y := h
  unfold spec_l18Copy_D at h
  replace h := ocons_some h
  obtain ⟨a0, r0, rfl, h⟩ := h
  replace h := onil_some h
  obtain ⟨rfl, h⟩ := h
  obtain ⟨y0, qh0, h⟩ := obind_some h
  rw [argV_eq ok qh0]
  exact call_of (phiE_nat _ _) hs ok mixed Try.func93 (c := spec_l18Copy_code) (by kernel_rfl) (spec_l18Copy_lo n) (by kernel_rfl) (by kernel_rfl) (by kernel_rfl) spec_l18Copy_de ((spec_l18Copy_tie n y0).trans h)
noncomputable def spec_l1In_code : Code := match Try.f174.body with | some c => c | none => .skip
def spec_l1In_ann : Ann := fun id => none
def spec_l1In_Ls (n : Nat) : Nat → Option (LSpec T) := fun id => none
theorem spec_l1In_tie (n : Nat) (x0 : Int) (a1 : Int) (b2 : Int) : evF (T := T) (Phi n 10) (spec_l1In_Ls n) spec_l1In_ann n Try.f174 (sg 174) [vA T 3 x0, vA T 3 a1, vA T 3 b2] spec_l1In_dec = spec_l1In n x0 a1 b2 := by kernel_rfl
theorem spec_l1In_lo (n : Nat) : LoopsOk (T := T) (Phi n 10) (spec_l1In_Ls n) spec_l1In_ann n spec_l1In_code := loopsOk_all (cs := []) (by kernel_rfl) trivial
theorem spec_l1In_ok (n : Nat) : EntOk Try.prog (ents n) (spec_l1In_ent n) := by
  intro hs ar y hg h
  replace h : spec_l1In_D n ar = some y := h
  unfold spec_l1In_D at h
  replace h := ocons_some h
  obtain ⟨a0, r0, rfl, h⟩ := h
  replace h := ocons_some h
  obtain ⟨a1, r1, rfl, h⟩ := h
  replace h := ocons_some h
  obtain ⟨a2, r2, rfl, h⟩ := h
  replace h := onil_some h
  obtain ⟨rfl, h⟩ := h
  obtain ⟨x0, qh0, h⟩ := obind_some h
  obtain ⟨a1, qh1, h⟩ := obind_some h
  obtain ⟨b2, qh2, h⟩ := obind_some h
  rw [argV_eq ok qh0, argV_eq ok qh1, argV_eq ok qh2]
  exact call_of (phiE_nat _ _) hs ok mixed Try.func174 (c := spec_l1In_code) (by kernel_rfl) (spec_l1In_lo n) (by kernel_rfl) (by kernel_rfl) (by kernel_rfl) spec_l1In_de ((spec_l1In_tie n x0 a1 b2).trans h)
noncomputable def spec_l18Count_code : Code := match Try.f181.body with | some c => c | none => .skip
def spec_l18Count_3_sv : List Sv := [.one (.int .i64), .one (.ptr 16 0 0), .one (.int .i64), .one (.int .i64)]
def spec_l18Count_3_so : List So := [.var [.int .i64, .arr 23]]
def spec_l18Count_3_emb (c : Int × SYard) (x : Int × Int) : EVs T spec_l18Count_3_sv × EOs T spec_l18Count_3_so := ((c.1, (), x.1, x.2, ()), ((c.2.High, c.2.Stacks, ()), ()))
def spec_l18Count_3_prj (y : EVs T spec_l18Count_3_sv × EOs T spec_l18Count_3_so) : (Int × SYard) × (Int × Int) := ((y.1.1, ((⟨y.2.1.1, y.2.1.2.1⟩ : SYard) : SYard)), (y.1.2.2.1, y.1.2.2.2.1))
def spec_l18Count_3_b (n : Nat) {R : Type} (K : Ex → Sm.St T → Option R) (c : Int × SYard) (x : Int × Int) (J : (Int × Int) → Option R) : Option R :=
  spec_l18Count_L3 n (fun (y0 : Int) => K (.exit 0) (stOf (T := T) [5] [] [.one (.int .i64)] [] (y0, ()) ())) (fun z0 z1 => J (z0, z1)) c.1 x.1 x.2 c.2
def spec_l18Count_3_sp (n : Nat) : LSpec T := mkSpec T ⟨[], [1, 2, 5, 6], [16]⟩ spec_l18Count_3_sv spec_l18Count_3_so (Int × SYard) (Int × Int) spec_l18Count_3_emb spec_l18Count_3_prj (spec_l18Count_3_b n)
noncomputable def spec_l18Count_3_c : Code := ((loopCodes spec_l18Count_code)[0]?).getD .skip
def spec_l18Count_6_sv : List Sv := [.one (.int .i64), .one (.ptr 16 0 0), .one (.int .i64), .one (.int .i64), .one (.int .i64)]
def spec_l18Count_6_so : List So := [.var [.int .i64, .arr 23]]
def spec_l18Count_6_emb (c : Int × Int × SYard) (x : Int × Int) : EVs T spec_l18Count_6_sv × EOs T spec_l18Count_6_so := ((c.1, (), x.1, c.2.1, x.2, ()), ((c.2.2.High, c.2.2.Stacks, ()), ()))
def spec_l18Count_6_prj (y : EVs T spec_l18Count_6_sv × EOs T spec_l18Count_6_so) : (Int × Int × SYard) × (Int × Int) := ((y.1.1, y.1.2.2.2.1, ((⟨y.2.1.1, y.2.1.2.1⟩ : SYard) : SYard)), (y.1.2.2.1, y.1.2.2.2.2.1))
def spec_l18Count_6_b (n : Nat) {R : Type} (K : Ex → Sm.St T → Option R) (c : Int × Int × SYard) (x : Int × Int) (J : (Int × Int) → Option R) : Option R :=
  spec_l18Count_L6 n (fun (y1 : Int) => K (.exit 2) (stOf (T := T) [1, 2, 5, 6] [16] [.one (.int .i64), .one (.ptr 16 0 0), .one (.int .i64), .one (.int .i64)] [.var [.int .i64, .arr 23]] (c.1, (), y1, c.2.1, ()) ((c.2.2.High, c.2.2.Stacks, ()), ()))) (fun z0 z1 => J (z0, z1)) c.1 x.1 c.2.1 x.2 c.2.2
def spec_l18Count_6_sp (n : Nat) : LSpec T := mkSpec T ⟨[], [1, 2, 5, 6, 7], [16]⟩ spec_l18Count_6_sv spec_l18Count_6_so (Int × Int × SYard) (Int × Int) spec_l18Count_6_emb spec_l18Count_6_prj (spec_l18Count_6_b n)
noncomputable def spec_l18Count_6_c : Code := ((loopCodes spec_l18Count_code)[1]?).getD .skip
def spec_l18Count_ann : Ann := fun id => bif Nat.beq id 3000003 then some ⟨[], [5], []⟩ else bif Nat.beq id 5000006 then some ⟨[], [1, 2, 5, 6], [16]⟩ else none
def spec_l18Count_Ls (n : Nat) : Nat → Option (LSpec T) := fun id => bif Nat.beq id 3 then some (spec_l18Count_3_sp n) else bif Nat.beq id 6 then some (spec_l18Count_6_sp n) else none
theorem spec_l18Count_3_le (n : Nat) : LoopEq (T := T) (Phi n 11) (spec_l18Count_Ls n) spec_l18Count_ann n spec_l18Count_3_c (spec_l18Count_3_sp n) := ⟨mkSpec_dec (fun y => rfl), fun c x => by kernel_rfl, fun K J c x => by kernel_rfl⟩
theorem spec_l18Count_6_le (n : Nat) : LoopEq (T := T) (Phi n 11) (spec_l18Count_Ls n) spec_l18Count_ann n spec_l18Count_6_c (spec_l18Count_6_sp n) := ⟨mkSpec_dec (fun y => rfl), fun c x => by kernel_rfl, fun K J c x => by kernel_rfl⟩
theorem spec_l18Count_tie (n : Nat) (y0 : SYard) (box1 : Int) : evF (T := T) (Phi n 11) (spec_l18Count_Ls n) spec_l18Count_ann n Try.f181 (sg 181) [vA T 41 y0, vA T 3 box1] spec_l18Count_dec = spec_l18Count n y0 box1 := by kernel_rfl
theorem spec_l18Count_lo (n : Nat) : LoopsOk (T := T) (Phi n 11) (spec_l18Count_Ls n) spec_l18Count_ann n spec_l18Count_code := loopsOk_all (cs := [spec_l18Count_3_c, spec_l18Count_6_c]) (by kernel_rfl) ⟨⟨_, by kernel_rfl, spec_l18Count_3_le n⟩, ⟨_, by kernel_rfl, spec_l18Count_6_le n⟩, trivial⟩
theorem spec_l18Count_ok (n : Nat) : EntOk Try.prog (ents n) (spec_l18Count_ent n) := by
  intro hs ar y hg h
  replace h : spec_l18Count_D n ar = some y := h
  unfold spec_l18Count_D at h
  replace h := ocons_some h
  obtain ⟨a0, r0, rfl, h⟩ := h
  replace h := ocons_some h
  obtain ⟨a1, r1, rfl, h⟩ := h
  replace h := onil_some h
  obtain ⟨rfl, h⟩ := h
  obtain ⟨y0, qh0, h⟩ := obind_some h
  obtain ⟨box1, qh1, h⟩ := obind_some h
  rw [argV_eq ok qh0, argV_eq ok qh1]
  exact call_of (phiE_nat _ _) hs ok mixed Try.func181 (c := spec_l18Count_code) (by kernel_rfl) (spec_l18Count_lo n) (by kernel_rfl) (by kernel_rfl) (by kernel_rfl) spec_l18Count_de ((spec_l18Count_tie n y0 box1).trans h)
noncomputable def spec_YardOk_code : Code := match Try.f94.body with | some c => c | none => .skip
def spec_YardOk_4_sv : List Sv := [.one (.ptr 8 0 0), .one (.int .i64)]
def spec_YardOk_4_so : List So := [.var [.int .i64, .arr 23]]
def spec_YardOk_4_emb (c : SYard) (x : Int) : EVs T spec_YardOk_4_sv × EOs T spec_YardOk_4_so := (((), x, ()), ((c.High, c.Stacks, ()), ()))
def spec_YardOk_4_prj (y : EVs T spec_YardOk_4_sv × EOs T spec_YardOk_4_so) : SYard × Int := ((((⟨y.2.1.1, y.2.1.2.1⟩ : SYard) : SYard)), (y.1.2.1))
def spec_YardOk_4_b (n : Nat) {R : Type} (K : Ex → Sm.St T → Option R) (c : SYard) (x : Int) (J : Int → Option R) : Option R :=
  spec_YardOk_L4 n (K (.exit 0) (stOf (T := T) [1] [8] [.one (.ptr 8 0 0)] [.var [.int .i64, .arr 23]] ((), ()) ((c.High, c.Stacks, ()), ()))) (fun (y0 : Bool) => K .ret (stOf (T := T) [2] [] [.one (.bool)] [] (y0, ()) ())) J x c
def spec_YardOk_4_sp (n : Nat) : LSpec T := mkSpec T ⟨[], [1, 3], [8]⟩ spec_YardOk_4_sv spec_YardOk_4_so (SYard) (Int) spec_YardOk_4_emb spec_YardOk_4_prj (spec_YardOk_4_b n)
noncomputable def spec_YardOk_4_c : Code := ((loopCodes spec_YardOk_code)[0]?).getD .skip
def spec_YardOk_9_sv : List Sv := [.one (.ptr 8 0 0), .one (.int .i64)]
def spec_YardOk_9_so : List So := [.var [.int .i64, .arr 23]]
def spec_YardOk_9_emb (c : SYard) (x : Int) : EVs T spec_YardOk_9_sv × EOs T spec_YardOk_9_so := (((), x, ()), ((c.High, c.Stacks, ()), ()))
def spec_YardOk_9_prj (y : EVs T spec_YardOk_9_sv × EOs T spec_YardOk_9_so) : SYard × Int := ((((⟨y.2.1.1, y.2.1.2.1⟩ : SYard) : SYard)), (y.1.2.1))
def spec_YardOk_9_b (n : Nat) {R : Type} (K : Ex → Sm.St T → Option R) (c : SYard) (x : Int) (J : Int → Option R) : Option R :=
  spec_YardOk_L9 n (K (.exit 2) (stOf (T := T) [] [] [] [] () ())) (fun (y0 : Bool) => K .ret (stOf (T := T) [2] [] [.one (.bool)] [] (y0, ()) ())) J x c
def spec_YardOk_9_sp (n : Nat) : LSpec T := mkSpec T ⟨[], [1, 4], [8]⟩ spec_YardOk_9_sv spec_YardOk_9_so (SYard) (Int) spec_YardOk_9_emb spec_YardOk_9_prj (spec_YardOk_9_b n)
noncomputable def spec_YardOk_9_c : Code := ((loopCodes spec_YardOk_code)[1]?).getD .skip
def spec_YardOk_12_sv : List Sv := [.one (.ptr 8 0 0), .one (.int .i64), .one (.int .i64)]
def spec_YardOk_12_so : List So := [.var [.int .i64, .arr 23]]
def spec_YardOk_12_emb (c : Int × SYard) (x : Int) : EVs T spec_YardOk_12_sv × EOs T spec_YardOk_12_so := (((), c.1, x, ()), ((c.2.High, c.2.Stacks, ()), ()))
def spec_YardOk_12_prj (y : EVs T spec_YardOk_12_sv × EOs T spec_YardOk_12_so) : (Int × SYard) × Int := ((y.1.2.1, ((⟨y.2.1.1, y.2.1.2.1⟩ : SYard) : SYard)), (y.1.2.2.1))
def spec_YardOk_12_b (n : Nat) {R : Type} (K : Ex → Sm.St T → Option R) (c : Int × SYard) (x : Int) (J : Int → Option R) : Option R :=
  spec_YardOk_L12 n (K (.exit 4) (stOf (T := T) [1, 4] [8] [.one (.ptr 8 0 0), .one (.int .i64)] [.var [.int .i64, .arr 23]] ((), c.1, ()) ((c.2.High, c.2.Stacks, ()), ()))) (fun (y0 : Bool) => K .ret (stOf (T := T) [2] [] [.one (.bool)] [] (y0, ()) ())) J c.1 x c.2
def spec_YardOk_12_sp (n : Nat) : LSpec T := mkSpec T ⟨[], [1, 4, 5], [8]⟩ spec_YardOk_12_sv spec_YardOk_12_so (Int × SYard) (Int) spec_YardOk_12_emb spec_YardOk_12_prj (spec_YardOk_12_b n)
noncomputable def spec_YardOk_12_c : Code := ((loopCodes spec_YardOk_code)[2]?).getD .skip
def spec_YardOk_ann : Ann := fun id => bif Nat.beq id 3000004 then some ⟨[], [1], [8]⟩ else bif Nat.beq id 2000004 then some ⟨[], [2], []⟩ else bif Nat.beq id 5000009 then some ⟨[], [], []⟩ else bif Nat.beq id 2000009 then some ⟨[], [2], []⟩ else bif Nat.beq id 7000012 then some ⟨[], [1, 4], [8]⟩ else bif Nat.beq id 2000012 then some ⟨[], [2], []⟩ else none
def spec_YardOk_Ls (n : Nat) : Nat → Option (LSpec T) := fun id => bif Nat.beq id 4 then some (spec_YardOk_4_sp n) else bif Nat.beq id 9 then some (spec_YardOk_9_sp n) else bif Nat.beq id 12 then some (spec_YardOk_12_sp n) else none
theorem spec_YardOk_4_le (n : Nat) : LoopEq (T := T) (Phi n 12) (spec_YardOk_Ls n) spec_YardOk_ann n spec_YardOk_4_c (spec_YardOk_4_sp n) := ⟨mkSpec_dec (fun y => rfl), fun c x => by kernel_rfl, fun K J c x => by kernel_rfl⟩
theorem spec_YardOk_9_le (n : Nat) : LoopEq (T := T) (Phi n 12) (spec_YardOk_Ls n) spec_YardOk_ann n spec_YardOk_9_c (spec_YardOk_9_sp n) := ⟨mkSpec_dec (fun y => rfl), fun c x => by kernel_rfl, fun K J c x => by kernel_rfl⟩
theorem spec_YardOk_12_le (n : Nat) : LoopEq (T := T) (Phi n 12) (spec_YardOk_Ls n) spec_YardOk_ann n spec_YardOk_12_c (spec_YardOk_12_sp n) := ⟨mkSpec_dec (fun y => rfl), fun c x => by kernel_rfl, fun K J c x => by kernel_rfl⟩
theorem spec_YardOk_tie (n : Nat) (y0 : SYard) : evF (T := T) (Phi n 12) (spec_YardOk_Ls n) spec_YardOk_ann n Try.f94 (sg 94) [vA T 41 y0] spec_YardOk_dec = spec_YardOk n y0 := by kernel_rfl
theorem spec_YardOk_lo (n : Nat) : LoopsOk (T := T) (Phi n 12) (spec_YardOk_Ls n) spec_YardOk_ann n spec_YardOk_code := loopsOk_all (cs := [spec_YardOk_4_c, spec_YardOk_9_c, spec_YardOk_12_c]) (by kernel_rfl) ⟨⟨_, by kernel_rfl, spec_YardOk_4_le n⟩, ⟨_, by kernel_rfl, spec_YardOk_9_le n⟩, ⟨_, by kernel_rfl, spec_YardOk_12_le n⟩, trivial⟩
theorem spec_YardOk_ok (n : Nat) : EntOk Try.prog (ents n) (spec_YardOk_ent n) := by
  intro hs ar y hg h
  replace h : spec_YardOk_D n ar = some y := h
  unfold spec_YardOk_D at h
  replace h := ocons_some h
  obtain ⟨a0, r0, rfl, h⟩ := h
  replace h := onil_some h
  obtain ⟨rfl, h⟩ := h
  obtain ⟨y0, qh0, h⟩ := obind_some h
  rw [argV_eq ok qh0]
  exact call_of (phiE_nat _ _) hs ok mixed Try.func94 (c := spec_YardOk_code) (by kernel_rfl) (spec_YardOk_lo n) (by kernel_rfl) (by kernel_rfl) (by kernel_rfl) spec_YardOk_de ((spec_YardOk_tie n y0).trans h)
noncomputable def spec_l18Op_code : Code := match Try.f95.body with | some c => c | none => .skip
def spec_l18Op_ann : Ann := fun id => none
def spec_l18Op_Ls (n : Nat) : Nat → Option (LSpec T) := fun id => none
theorem spec_l18Op_tie (n : Nat) (y0 : SYard) (op1 : SYardOp) : evF (T := T) (Phi n 13) (spec_l18Op_Ls n) spec_l18Op_ann n Try.f95 (sg 95) [vA T 41 y0, vA T 45 op1] spec_l18Op_dec = spec_l18Op n y0 op1 := by kernel_rfl
theorem spec_l18Op_lo (n : Nat) : LoopsOk (T := T) (Phi n 13) (spec_l18Op_Ls n) spec_l18Op_ann n spec_l18Op_code := loopsOk_all (cs := []) (by kernel_rfl) trivial
theorem spec_l18Op_ok (n : Nat) : EntOk Try.prog (ents n) (spec_l18Op_ent n) := by
  intro hs ar y hg h
  replace h : spec_l18Op_D n ar = some y := h
  unfold spec_l18Op_D at h
  replace h := ocons_some h
  obtain ⟨a0, r0, rfl, h⟩ := h
  replace h := ocons_some h
  obtain ⟨a1, r1, rfl, h⟩ := h
  replace h := onil_some h
  obtain ⟨rfl, h⟩ := h
  obtain ⟨y0, qh0, h⟩ := obind_some h
  obtain ⟨op1, qh1, h⟩ := obind_some h
  rw [argV_eq ok qh0, argV_eq ok qh1]
  exact call_of (phiE_nat _ _) hs ok mixed Try.func95 (c := spec_l18Op_code) (by kernel_rfl) (spec_l18Op_lo n) (by kernel_rfl) (by kernel_rfl) (by kernel_rfl) spec_l18Op_de ((spec_l18Op_tie n y0 op1).trans h)
noncomputable def spec_FindBox_code : Code := match Try.f96.body with | some c => c | none => .skip
def spec_FindBox_2_sv : List Sv := [.one (.int .i64), .one (.ptr 16 0 0), .one (.int .i64)]
def spec_FindBox_2_so : List So := [.var [.int .i64, .arr 23]]
def spec_FindBox_2_emb (c : Int × SYard) (x : Int) : EVs T spec_FindBox_2_sv × EOs T spec_FindBox_2_so := ((c.1, (), x, ()), ((c.2.High, c.2.Stacks, ()), ()))
def spec_FindBox_2_prj (y : EVs T spec_FindBox_2_sv × EOs T spec_FindBox_2_so) : (Int × SYard) × Int := ((y.1.1, ((⟨y.2.1.1, y.2.1.2.1⟩ : SYard) : SYard)), (y.1.2.2.1))
def spec_FindBox_2_b (n : Nat) {R : Type} (K : Ex → Sm.St T → Option R) (c : Int × SYard) (x : Int) (J : Int → Option R) : Option R :=
  spec_FindBox_L2 n (K (.exit 0) (stOf (T := T) [] [] [] [] () ())) (fun (y0 : Int) (y1 : Int) (y2 : Bool) => K .ret (stOf (T := T) [4, 5, 6] [] [.one (.int .i64), .one (.int .i64), .one (.bool)] [] (y0, y1, y2, ()) ())) J c.1 x c.2
def spec_FindBox_2_sp (n : Nat) : LSpec T := mkSpec T ⟨[], [1, 2, 7], [16]⟩ spec_FindBox_2_sv spec_FindBox_2_so (Int × SYard) (Int) spec_FindBox_2_emb spec_FindBox_2_prj (spec_FindBox_2_b n)
noncomputable def spec_FindBox_2_c : Code := ((loopCodes spec_FindBox_code)[0]?).getD .skip
def spec_FindBox_5_sv : List Sv := [.one (.int .i64), .one (.ptr 16 0 0), .one (.int .i64), .one (.int .i64)]
def spec_FindBox_5_so : List So := [.var [.int .i64, .arr 23]]
def spec_FindBox_5_emb (c : Int × Int × SYard) (x : Int) : EVs T spec_FindBox_5_sv × EOs T spec_FindBox_5_so := ((c.1, (), c.2.1, x, ()), ((c.2.2.High, c.2.2.Stacks, ()), ()))
def spec_FindBox_5_prj (y : EVs T spec_FindBox_5_sv × EOs T spec_FindBox_5_so) : (Int × Int × SYard) × Int := ((y.1.1, y.1.2.2.1, ((⟨y.2.1.1, y.2.1.2.1⟩ : SYard) : SYard)), (y.1.2.2.2.1))
def spec_FindBox_5_b (n : Nat) {R : Type} (K : Ex → Sm.St T → Option R) (c : Int × Int × SYard) (x : Int) (J : Int → Option R) : Option R :=
  spec_FindBox_L5 n (K (.exit 2) (stOf (T := T) [1, 2, 7] [16] [.one (.int .i64), .one (.ptr 16 0 0), .one (.int .i64)] [.var [.int .i64, .arr 23]] (c.1, (), c.2.1, ()) ((c.2.2.High, c.2.2.Stacks, ()), ()))) (fun (y1 : Int) (y2 : Bool) => K .ret (stOf (T := T) [4, 5, 6] [] [.one (.int .i64), .one (.int .i64), .one (.bool)] [] (c.2.1, y1, y2, ()) ())) J c.1 c.2.1 x c.2.2
def spec_FindBox_5_sp (n : Nat) : LSpec T := mkSpec T ⟨[], [1, 2, 7, 8], [16]⟩ spec_FindBox_5_sv spec_FindBox_5_so (Int × Int × SYard) (Int) spec_FindBox_5_emb spec_FindBox_5_prj (spec_FindBox_5_b n)
noncomputable def spec_FindBox_5_c : Code := ((loopCodes spec_FindBox_code)[1]?).getD .skip
def spec_FindBox_ann : Ann := fun id => bif Nat.beq id 3000002 then some ⟨[], [], []⟩ else bif Nat.beq id 2000002 then some ⟨[], [4, 5, 6], []⟩ else bif Nat.beq id 5000005 then some ⟨[], [1, 2, 7], [16]⟩ else bif Nat.beq id 2000005 then some ⟨[], [4, 5, 6], []⟩ else none
def spec_FindBox_Ls (n : Nat) : Nat → Option (LSpec T) := fun id => bif Nat.beq id 2 then some (spec_FindBox_2_sp n) else bif Nat.beq id 5 then some (spec_FindBox_5_sp n) else none
theorem spec_FindBox_2_le (n : Nat) : LoopEq (T := T) (Phi n 14) (spec_FindBox_Ls n) spec_FindBox_ann n spec_FindBox_2_c (spec_FindBox_2_sp n) := ⟨mkSpec_dec (fun y => rfl), fun c x => by kernel_rfl, fun K J c x => by kernel_rfl⟩
theorem spec_FindBox_5_le (n : Nat) : LoopEq (T := T) (Phi n 14) (spec_FindBox_Ls n) spec_FindBox_ann n spec_FindBox_5_c (spec_FindBox_5_sp n) := ⟨mkSpec_dec (fun y => rfl), fun c x => by kernel_rfl, fun K J c x => by kernel_rfl⟩
theorem spec_FindBox_tie (n : Nat) (y0 : SYard) (box1 : Int) : evF (T := T) (Phi n 14) (spec_FindBox_Ls n) spec_FindBox_ann n Try.f96 (sg 96) [vA T 41 y0, vA T 3 box1] spec_FindBox_dec = spec_FindBox n y0 box1 := by kernel_rfl
theorem spec_FindBox_lo (n : Nat) : LoopsOk (T := T) (Phi n 14) (spec_FindBox_Ls n) spec_FindBox_ann n spec_FindBox_code := loopsOk_all (cs := [spec_FindBox_2_c, spec_FindBox_5_c]) (by kernel_rfl) ⟨⟨_, by kernel_rfl, spec_FindBox_2_le n⟩, ⟨_, by kernel_rfl, spec_FindBox_5_le n⟩, trivial⟩
theorem spec_FindBox_ok (n : Nat) : EntOk Try.prog (ents n) (spec_FindBox_ent n) := by
  intro hs ar y hg h
  replace h : spec_FindBox_D n ar = some y := h
  unfold spec_FindBox_D at h
  replace h := ocons_some h
  obtain ⟨a0, r0, rfl, h⟩ := h
  replace h := ocons_some h
  obtain ⟨a1, r1, rfl, h⟩ := h
  replace h := onil_some h
  obtain ⟨rfl, h⟩ := h
  obtain ⟨y0, qh0, h⟩ := obind_some h
  obtain ⟨box1, qh1, h⟩ := obind_some h
  rw [argV_eq ok qh0, argV_eq ok qh1]
  exact call_of (phiE_nat _ _) hs ok mixed Try.func96 (c := spec_FindBox_code) (by kernel_rfl) (spec_FindBox_lo n) (by kernel_rfl) (by kernel_rfl) (by kernel_rfl) spec_FindBox_de ((spec_FindBox_tie n y0 box1).trans h)
noncomputable def spec_l18Shift_code : Code := match Try.f97.body with | some c => c | none => .skip
def spec_l18Shift_ann : Ann := fun id => none
def spec_l18Shift_Ls (n : Nat) : Nat → Option (LSpec T) := fun id => none
theorem spec_l18Shift_tie (n : Nat) (y0 : SYard) (from1 : Int) (to2 : Int) : evF (T := T) (Phi n 15) (spec_l18Shift_Ls n) spec_l18Shift_ann n Try.f97 (sg 97) [vA T 41 y0, vA T 3 from1, vA T 3 to2] spec_l18Shift_dec = spec_l18Shift n y0 from1 to2 := by kernel_rfl
theorem spec_l18Shift_lo (n : Nat) : LoopsOk (T := T) (Phi n 15) (spec_l18Shift_Ls n) spec_l18Shift_ann n spec_l18Shift_code := loopsOk_all (cs := []) (by kernel_rfl) trivial
theorem spec_l18Shift_ok (n : Nat) : EntOk Try.prog (ents n) (spec_l18Shift_ent n) := by
  intro hs ar y hg h
  replace h : spec_l18Shift_D n ar = some y := h
  unfold spec_l18Shift_D at h
  replace h := ocons_some h
  obtain ⟨a0, r0, rfl, h⟩ := h
  replace h := ocons_some h
  obtain ⟨a1, r1, rfl, h⟩ := h
  replace h := ocons_some h
  obtain ⟨a2, r2, rfl, h⟩ := h
  replace h := onil_some h
  obtain ⟨rfl, h⟩ := h
  obtain ⟨y0, qh0, h⟩ := obind_some h
  obtain ⟨from1, qh1, h⟩ := obind_some h
  obtain ⟨to2, qh2, h⟩ := obind_some h
  rw [argV_eq ok qh0, argV_eq ok qh1, argV_eq ok qh2]
  exact call_of (phiE_nat _ _) hs ok mixed Try.func97 (c := spec_l18Shift_code) (by kernel_rfl) (spec_l18Shift_lo n) (by kernel_rfl) (by kernel_rfl) (by kernel_rfl) spec_l18Shift_de ((spec_l18Shift_tie n y0 from1 to2).trans h)
noncomputable def spec_DoYard_code : Code := match Try.f20.body with | some c => c | none => .skip
def spec_DoYard_23_sv : List Sv := [.one (.ptr 16 0 0), .one (.ptr 32 0 0), .one (.ptr 56 0 0), .one (.int .i64), .one (.int .i64), .one (.int .i64)]
def spec_DoYard_23_so : List So := [.var [.int .i64, .arr 23], .var [.int .i64, .own 3000000 23 false], .arr 23 false, .var [.int .i64, .own 3000001 23 false], .arr 23 false]
def spec_DoYard_23_emb (c : Int × Int × SYard × Int × List (List Int) × Int) (x : Int × List (List Int)) : EVs T spec_DoYard_23_sv × EOs T spec_DoYard_23_so := (((), (), (), c.1, c.2.1, x.1, ()), ((c.2.2.1.High, c.2.2.1.Stacks, ()), (c.2.2.2.1, (), ()), c.2.2.2.2.1, (c.2.2.2.2.2, (), ()), x.2, ()))
def spec_DoYard_23_prj (y : EVs T spec_DoYard_23_sv × EOs T spec_DoYard_23_so) : (Int × Int × SYard × Int × List (List Int) × Int) × (Int × List (List Int)) := ((y.1.2.2.2.1, y.1.2.2.2.2.1, ((⟨y.2.1.1, y.2.1.2.1⟩ : SYard) : SYard), y.2.2.1.1, y.2.2.2.1, y.2.2.2.2.1.1), (y.1.2.2.2.2.2.1, y.2.2.2.2.2.1))
def spec_DoYard_23_b (n : Nat) {R : Type} (K : Ex → Sm.St T → Option R) (c : Int × Int × SYard × Int × List (List Int) × Int) (x : Int × List (List Int)) (J : (Int × List (List Int)) → Option R) : Option R :=
  spec_DoYard_L23 n (fun (y2 : Int) (y6 : List (List Int)) => K (.exit 1) (stOf (T := T) [4, 7, 8, 9, 11] [32, 3000000, 56, 3000001] [.one (.ptr 32 0 0), .one (.ptr 56 0 0), .one (.int .i64), .one (.int .i64), .one (.int .i64)] [.var [.int .i64, .own 3000000 23 false], .arr 23 false, .var [.int .i64, .own 3000001 23 false], .arr 23 false] ((), (), c.1, c.2.1, y2, ()) ((c.2.2.2.1, (), ()), c.2.2.2.2.1, (c.2.2.2.2.2, (), ()), y6, ()))) (fun (y0 : Int) (y1 : Int) (y2 : Int) (y3 : List (List Int)) => K .ret (stOf (T := T) [4, 5, 6] [32, 3000000] [.one (.ptr 32 0 0), .one (.int .i64), .one (.int .i64)] [.var [.int .i64, .own 3000000 23 false], .arr 23 false] ((), y0, y1, ()) ((y2, (), ()), y3, ()))) (fun z0 z1 => J (z0, z1)) c.1 c.2.1 x.1 c.2.2.1 c.2.2.2.1 c.2.2.2.2.1 c.2.2.2.2.2 x.2
def spec_DoYard_23_sp (n : Nat) : LSpec T := mkSpec T ⟨[((.cell 32 1), 3000000, 23), ((.cell 56 1), 3000001, 23)], [2, 4, 7, 8, 9, 11], [16, 32, 3000000, 56, 3000001]⟩ spec_DoYard_23_sv spec_DoYard_23_so (Int × Int × SYard × Int × List (List Int) × Int) (Int × List (List Int)) spec_DoYard_23_emb spec_DoYard_23_prj (spec_DoYard_23_b n)
noncomputable def spec_DoYard_23_c : Code := ((loopCodes spec_DoYard_code)[0]?).getD .skip
def spec_DoYard_26_sv : List Sv := [.one (.ptr 16 0 0), .one (.ptr 32 0 0), .one (.ptr 56 0 0), .one (.int .i64), .one (.int .i64), .one (.int .i64), .one (.int .i64), .one (.int .i64)]
def spec_DoYard_26_so : List So := [.var [.int .i64, .arr 23], .var [.int .i64, .own 3000000 23 false], .arr 23 false, .var [.int .i64, .own 3000001 23 false], .arr 23 false]
def spec_DoYard_26_emb (c : Int × Int × Int × SYard × Int × List (List Int) × Int × List (List Int)) (x : Int × Int) : EVs T spec_DoYard_26_sv × EOs T spec_DoYard_26_so := (((), (), (), c.1, c.2.1, c.2.2.1, x.1, x.2, ()), ((c.2.2.2.1.High, c.2.2.2.1.Stacks, ()), (c.2.2.2.2.1, (), ()), c.2.2.2.2.2.1, (c.2.2.2.2.2.2.1, (), ()), c.2.2.2.2.2.2.2, ()))
def spec_DoYard_26_prj (y : EVs T spec_DoYard_26_sv × EOs T spec_DoYard_26_so) : (Int × Int × Int × SYard × Int × List (List Int) × Int × List (List Int)) × (Int × Int) := ((y.1.2.2.2.1, y.1.2.2.2.2.1, y.1.2.2.2.2.2.1, ((⟨y.2.1.1, y.2.1.2.1⟩ : SYard) : SYard), y.2.2.1.1, y.2.2.2.1, y.2.2.2.2.1.1, y.2.2.2.2.2.1), (y.1.2.2.2.2.2.2.1, y.1.2.2.2.2.2.2.2.1))
def spec_DoYard_26_b (n : Nat) {R : Type} (K : Ex → Sm.St T → Option R) (c : Int × Int × Int × SYard × Int × List (List Int) × Int × List (List Int)) (x : Int × Int) (J : (Int × Int) → Option R) : Option R :=
  spec_DoYard_L26 n (fun (y3 : Int) => K (.exit 3) (stOf (T := T) [2, 4, 7, 8, 9, 11, 12] [16, 32, 3000000, 56, 3000001] [.one (.ptr 16 0 0), .one (.ptr 32 0 0), .one (.ptr 56 0 0), .one (.int .i64), .one (.int .i64), .one (.int .i64), .one (.int .i64)] [.var [.int .i64, .arr 23], .var [.int .i64, .own 3000000 23 false], .arr 23 false, .var [.int .i64, .own 3000001 23 false], .arr 23 false] ((), (), (), c.1, c.2.1, c.2.2.1, y3, ()) ((c.2.2.2.1.High, c.2.2.2.1.Stacks, ()), (c.2.2.2.2.1, (), ()), c.2.2.2.2.2.1, (c.2.2.2.2.2.2.1, (), ()), c.2.2.2.2.2.2.2, ()))) (fun z0 z1 => J (z0, z1)) c.1 c.2.1 c.2.2.1 x.1 x.2 c.2.2.2.1 c.2.2.2.2.1 c.2.2.2.2.2.1 c.2.2.2.2.2.2.1 c.2.2.2.2.2.2.2
def spec_DoYard_26_sp (n : Nat) : LSpec T := mkSpec T ⟨[((.cell 32 1), 3000000, 23), ((.cell 56 1), 3000001, 23)], [2, 4, 7, 8, 9, 11, 12, 13], [16, 32, 3000000, 56, 3000001]⟩ spec_DoYard_26_sv spec_DoYard_26_so (Int × Int × Int × SYard × Int × List (List Int) × Int × List (List Int)) (Int × Int) spec_DoYard_26_emb spec_DoYard_26_prj (spec_DoYard_26_b n)
noncomputable def spec_DoYard_26_c : Code := ((loopCodes spec_DoYard_code)[1]?).getD .skip
def spec_DoYard_ann : Ann := fun id => bif Nat.beq id 4000023 then some ⟨[((.cell 32 1), 3000000, 23), ((.cell 56 1), 3000001, 23)], [4, 7, 8, 9, 11], [32, 3000000, 56, 3000001]⟩ else bif Nat.beq id 2000023 then some ⟨[((.cell 32 1), 3000000, 23)], [4, 5, 6], [32, 3000000]⟩ else bif Nat.beq id 6000026 then some ⟨[((.cell 32 1), 3000000, 23), ((.cell 56 1), 3000001, 23)], [2, 4, 7, 8, 9, 11, 12], [16, 32, 3000000, 56, 3000001]⟩ else none
def spec_DoYard_Ls (n : Nat) : Nat → Option (LSpec T) := fun id => bif Nat.beq id 23 then some (spec_DoYard_23_sp n) else bif Nat.beq id 26 then some (spec_DoYard_26_sp n) else none
theorem spec_DoYard_23_le (n : Nat) : LoopEq (T := T) (Phi n 16) (spec_DoYard_Ls n) spec_DoYard_ann n spec_DoYard_23_c (spec_DoYard_23_sp n) := ⟨mkSpec_dec (fun y => rfl), fun c x => by kernel_rfl, fun K J c x => by kernel_rfl⟩
theorem spec_DoYard_26_le (n : Nat) : LoopEq (T := T) (Phi n 16) (spec_DoYard_Ls n) spec_DoYard_ann n spec_DoYard_26_c (spec_DoYard_26_sp n) := ⟨mkSpec_dec (fun y => rfl), fun c x => by kernel_rfl, fun K J c x => by kernel_rfl⟩
theorem spec_DoYard_tie (n : Nat) (y0 : SYard) (op1 : SYardOp) : evF (T := T) (Phi n 16) (spec_DoYard_Ls n) spec_DoYard_ann n Try.f20 (sg 20) [vA T 41 y0, vA T 45 op1] spec_DoYard_dec = spec_DoYard n y0 op1 := by kernel_rfl
theorem spec_DoYard_lo (n : Nat) : LoopsOk (T := T) (Phi n 16) (spec_DoYard_Ls n) spec_DoYard_ann n spec_DoYard_code := loopsOk_all (cs := [spec_DoYard_23_c, spec_DoYard_26_c]) (by kernel_rfl) ⟨⟨_, by kernel_rfl, spec_DoYard_23_le n⟩, ⟨_, by kernel_rfl, spec_DoYard_26_le n⟩, trivial⟩
theorem spec_DoYard_ok (n : Nat) : EntOk Try.prog (ents n) (spec_DoYard_ent n) := by
  intro hs ar y hg h
  replace h : spec_DoYard_D n ar = some y := h
  unfold spec_DoYard_D at h
  replace h := ocons_some h
  obtain ⟨a0, r0, rfl, h⟩ := h
  replace h := ocons_some h
  obtain ⟨a1, r1, rfl, h⟩ := h
  replace h := onil_some h
  obtain ⟨rfl, h⟩ := h
  obtain ⟨y0, qh0, h⟩ := obind_some h
  obtain ⟨op1, qh1, h⟩ := obind_some h
  rw [argV_eq ok qh0, argV_eq ok qh1]
  exact call_of (phiE_nat _ _) hs ok mixed Try.func20 (c := spec_DoYard_code) (by kernel_rfl) (spec_DoYard_lo n) (by kernel_rfl) (by kernel_rfl) (by kernel_rfl) spec_DoYard_de ((spec_DoYard_tie n y0 op1).trans h)
noncomputable def spec_RunYard_code : Code := match Try.f28.body with | some c => c | none => .skip
def spec_RunYard_5_sv : List Sv := [.one (.arr 45), .one (.ptr 32 0 0), .one (.ptr 56 0 0), .one (.own 3000000 3 false), .one (.int .i64), .one (.int .i64)]
def spec_RunYard_5_so : List So := [.var [.int .i64, .own 3000001 23 false], .arr 23 false, .var [.int .i64, .own 3000002 23 false], .arr 23 false, .arr 3 false]
def spec_RunYard_5_emb (c : List SYardOp × Int × List (List Int)) (x : Int × Int × Int × List (List Int) × List Int) : EVs T spec_RunYard_5_sv × EOs T spec_RunYard_5_so := ((c.1, (), (), (), x.1, x.2.1, ()), ((c.2.1, (), ()), c.2.2, (x.2.2.1, (), ()), x.2.2.2.1, x.2.2.2.2, ()))
def spec_RunYard_5_prj (y : EVs T spec_RunYard_5_sv × EOs T spec_RunYard_5_so) : (List SYardOp × Int × List (List Int)) × (Int × Int × Int × List (List Int) × List Int) := ((y.1.1, y.2.1.1, y.2.2.1), (y.1.2.2.2.2.1, y.1.2.2.2.2.2.1, y.2.2.2.1.1, y.2.2.2.2.1, y.2.2.2.2.2.1))
def spec_RunYard_5_b (n : Nat) {R : Type} (K : Ex → Sm.St T → Option R) (c : List SYardOp × Int × List (List Int)) (x : Int × Int × Int × List (List Int) × List Int) (J : (Int × Int × Int × List (List Int) × List Int) → Option R) : Option R :=
  spec_RunYard_L5 n (fun (y0 : Int) (y3 : Int) (y4 : List (List Int)) (y5 : List Int) => K (.exit 0) (stOf (T := T) [4, 7, 8, 9] [32, 3000001, 56, 3000002, 3000000] [.one (.ptr 32 0 0), .one (.ptr 56 0 0), .one (.own 3000000 3 false), .one (.int .i64)] [.var [.int .i64, .own 3000001 23 false], .arr 23 false, .var [.int .i64, .own 3000002 23 false], .arr 23 false, .arr 3 false] ((), (), (), y0, ()) ((c.2.1, (), ()), c.2.2, (y3, (), ()), y4, y5, ()))) (fun z0 z1 z2 z3 z4 => J (z0, z1, z2, z3, z4)) c.1 x.1 x.2.1 c.2.1 c.2.2 x.2.2.1 x.2.2.2.1 x.2.2.2.2
def spec_RunYard_5_sp (n : Nat) : LSpec T := mkSpec T ⟨[((.reg 8), 3000000, 3), ((.cell 32 1), 3000001, 23), ((.cell 56 1), 3000002, 23)], [1, 4, 7, 8, 9, 10], [32, 3000001, 56, 3000002, 3000000]⟩ spec_RunYard_5_sv spec_RunYard_5_so (List SYardOp × Int × List (List Int)) (Int × Int × Int × List (List Int) × List Int) spec_RunYard_5_emb spec_RunYard_5_prj (spec_RunYard_5_b n)
noncomputable def spec_RunYard_5_c : Code := ((loopCodes spec_RunYard_code)[0]?).getD .skip
def spec_RunYard_ann : Ann := fun id => bif Nat.beq id 3000005 then some ⟨[((.reg 8), 3000000, 3), ((.cell 32 1), 3000001, 23), ((.cell 56 1), 3000002, 23)], [4, 7, 8, 9], [32, 3000001, 56, 3000002, 3000000]⟩ else none
def spec_RunYard_Ls (n : Nat) : Nat → Option (LSpec T) := fun id => bif Nat.beq id 5 then some (spec_RunYard_5_sp n) else none
theorem spec_RunYard_5_le (n : Nat) : LoopEq (T := T) (Phi n 17) (spec_RunYard_Ls n) spec_RunYard_ann n spec_RunYard_5_c (spec_RunYard_5_sp n) := ⟨mkSpec_dec (fun y => rfl), fun c x => by kernel_rfl, fun K J c x => by kernel_rfl⟩
theorem spec_RunYard_tie (n : Nat) (y0 : SYard) (ops1 : List SYardOp) : evF (T := T) (Phi n 17) (spec_RunYard_Ls n) spec_RunYard_ann n Try.f28 (sg 28) [vA T 41 y0, vA T 54 ops1] spec_RunYard_dec = spec_RunYard n y0 ops1 := by kernel_rfl
theorem spec_RunYard_lo (n : Nat) : LoopsOk (T := T) (Phi n 17) (spec_RunYard_Ls n) spec_RunYard_ann n spec_RunYard_code := loopsOk_all (cs := [spec_RunYard_5_c]) (by kernel_rfl) ⟨⟨_, by kernel_rfl, spec_RunYard_5_le n⟩, trivial⟩
theorem spec_RunYard_ok (n : Nat) : EntOk Try.prog (ents n) (spec_RunYard_ent n) := by
  intro hs ar y hg h
  replace h : spec_RunYard_D n ar = some y := h
  unfold spec_RunYard_D at h
  replace h := ocons_some h
  obtain ⟨a0, r0, rfl, h⟩ := h
  replace h := ocons_some h
  obtain ⟨a1, r1, rfl, h⟩ := h
  replace h := onil_some h
  obtain ⟨rfl, h⟩ := h
  obtain ⟨y0, qh0, h⟩ := obind_some h
  obtain ⟨ops1, qh1, h⟩ := obind_some h
  rw [argV_eq ok qh0, argV_eq ok qh1]
  exact call_of (phiE_nat _ _) hs ok mixed Try.func28 (c := spec_RunYard_code) (by kernel_rfl) (spec_RunYard_lo n) (by kernel_rfl) (by kernel_rfl) (by kernel_rfl) spec_RunYard_de ((spec_RunYard_tie n y0 ops1).trans h)
noncomputable def impl_own_int_code : Code := match Try.f182.body with | some c => c | none => .skip
def impl_own_int_ann : Ann := fun id => none
def impl_own_int_Ls (n : Nat) : Nat → Option (LSpec T) := fun id => none
theorem impl_own_int_tie (n : Nat) (l0 : List (List Int)) : evF (T := T) (Phi n 18) (impl_own_int_Ls n) impl_own_int_ann n Try.f182 (sg 182) [vA T 35 l0] impl_own_int_dec = impl_own_int n l0 := by kernel_rfl
theorem impl_own_int_lo (n : Nat) : LoopsOk (T := T) (Phi n 18) (impl_own_int_Ls n) impl_own_int_ann n impl_own_int_code := loopsOk_all (cs := []) (by kernel_rfl) trivial
theorem impl_own_int_ok (n : Nat) : EntOk Try.prog (ents n) (impl_own_int_ent n) := by
  intro hs ar y hg h
  replace h : impl_own_int_D n ar = some y := h
  unfold impl_own_int_D at h
  replace h := ocons_some h
  obtain ⟨a0, r0, rfl, h⟩ := h
  replace h := onil_some h
  obtain ⟨rfl, h⟩ := h
  obtain ⟨l0, qh0, h⟩ := obind_some h
  rw [argV_eq ok qh0]
  exact call_of (phiE_nat _ _) hs ok mixed Try.func182 (c := impl_own_int_code) (by kernel_rfl) (impl_own_int_lo n) (by kernel_rfl) (by kernel_rfl) (by kernel_rfl) impl_own_int_de ((impl_own_int_tie n l0).trans h)
noncomputable def impl_own_int_f104_code : Code := match Try.f104.body with | some c => c | none => .skip
def impl_own_int_f104_ann : Ann := fun id => none
def impl_own_int_f104_Ls (n : Nat) : Nat → Option (LSpec T) := fun id => none
theorem impl_own_int_f104_tie (n : Nat) (l0 : List Int) : evF (T := T) (Phi n 19) (impl_own_int_f104_Ls n) impl_own_int_f104_ann n Try.f104 (sg 104) [vA T 23 l0] impl_own_int_f104_dec = impl_own_int_f104 n l0 := by kernel_rfl
theorem impl_own_int_f104_lo (n : Nat) : LoopsOk (T := T) (Phi n 19) (impl_own_int_f104_Ls n) impl_own_int_f104_ann n impl_own_int_f104_code := loopsOk_all (cs := []) (by kernel_rfl) trivial
theorem impl_own_int_f104_ok (n : Nat) : EntOk Try.prog (ents n) (impl_own_int_f104_ent n) := by
  intro hs ar y hg h
  replace h : impl_own_int_f104_D n ar = some y := h
  unfold impl_own_int_f104_D at h
  replace h := ocons_some h
  obtain ⟨a0, r0, rfl, h⟩ := h
  replace h := onil_some h
  obtain ⟨rfl, h⟩ := h
  obtain ⟨l0, qh0, h⟩ := obind_some h
  rw [argV_eq ok qh0]
  exact call_of (phiE_nat _ _) hs ok mixed Try.func104 (c := impl_own_int_f104_code) (by kernel_rfl) (impl_own_int_f104_lo n) (by kernel_rfl) (by kernel_rfl) (by kernel_rfl) impl_own_int_f104_de ((impl_own_int_f104_tie n l0).trans h)
noncomputable def impl_Yard_own_code : Code := match Try.f99.body with | some c => c | none => .skip
def impl_Yard_own_3_sv : List Sv := [.one (.ptr 8 0 0), .one (.ptr 16 0 0), .one (.own 3000000 23 false), .one (.int .i64), .one (.int .i64)]
def impl_Yard_own_3_so : List So := [.var [.int .i64, .arr 23], .var [.int .i64, .own 3000001 23 false], .arr 23 false, .arrU 23 false]
def impl_Yard_own_3_emb (c : Int × SYard × Int × List (List Int)) (x : Int × ((List (List Int)) × Nat)) : EVs T impl_Yard_own_3_sv × EOs T impl_Yard_own_3_so := (((), (), (), c.1, x.1, ()), ((c.2.1.High, c.2.1.Stacks, ()), (c.2.2.1, (), ()), c.2.2.2, x.2, ()))
def impl_Yard_own_3_prj (y : EVs T impl_Yard_own_3_sv × EOs T impl_Yard_own_3_so) : (Int × SYard × Int × List (List Int)) × (Int × ((List (List Int)) × Nat)) := ((y.1.2.2.2.1, ((⟨y.2.1.1, y.2.1.2.1⟩ : SYard) : SYard), y.2.2.1.1, y.2.2.2.1), (y.1.2.2.2.2.1, y.2.2.2.2.1))
def impl_Yard_own_3_b (n : Nat) {R : Type} (K : Ex → Sm.St T → Option R) (c : Int × SYard × Int × List (List Int)) (x : Int × ((List (List Int)) × Nat)) (J : (Int × ((List (List Int)) × Nat)) → Option R) : Option R :=
  impl_Yard_own_L3 n (fun (y3 : (List (List Int)) × Nat) => K (.exit 0) (stOf (T := T) [1, 2, 3] [8, 16, 3000001, 3000000] [.one (.ptr 8 0 0), .one (.ptr 16 0 0), .one (.own 3000000 23 false)] [.var [.int .i64, .arr 23], .var [.int .i64, .own 3000001 23 false], .arr 23 false, .arrU 23 false] ((), (), (), ()) ((c.2.1.High, c.2.1.Stacks, ()), (c.2.2.1, (), ()), c.2.2.2, y3, ()))) (fun z0 z1 => J (z0, z1)) c.1 x.1 c.2.1 c.2.2.1 c.2.2.2 x.2
def impl_Yard_own_3_sp (n : Nat) : LSpec T := mkSpec T ⟨[((.reg 3), 3000000, 23), ((.cell 16 1), 3000001, 23)], [1, 2, 3, 9, 10], [8, 16, 3000001, 3000000]⟩ impl_Yard_own_3_sv impl_Yard_own_3_so (Int × SYard × Int × List (List Int)) (Int × ((List (List Int)) × Nat)) impl_Yard_own_3_emb impl_Yard_own_3_prj (impl_Yard_own_3_b n)
noncomputable def impl_Yard_own_3_c : Code := ((loopCodes impl_Yard_own_code)[0]?).getD .skip
def impl_Yard_own_ann : Ann := fun id => bif Nat.beq id 3000003 then some ⟨[((.reg 3), 3000000, 23), ((.cell 16 1), 3000001, 23)], [1, 2, 3], [8, 16, 3000001, 3000000]⟩ else none
def impl_Yard_own_Ls (n : Nat) : Nat → Option (LSpec T) := fun id => bif Nat.beq id 3 then some (impl_Yard_own_3_sp n) else none
theorem impl_Yard_own_3_le (n : Nat) : LoopEq (T := T) (Phi n 20) (impl_Yard_own_Ls n) impl_Yard_own_ann n impl_Yard_own_3_c (impl_Yard_own_3_sp n) := ⟨mkSpec_dec (fun y => rfl), fun c x => by kernel_rfl, fun K J c x => by kernel_rfl⟩
theorem impl_Yard_own_tie (n : Nat) (y0 : SYard) : evF (T := T) (Phi n 20) (impl_Yard_own_Ls n) impl_Yard_own_ann n Try.f99 (sg 99) [vA T 41 y0] impl_Yard_own_dec = impl_Yard_own n y0 := by kernel_rfl
theorem impl_Yard_own_lo (n : Nat) : LoopsOk (T := T) (Phi n 20) (impl_Yard_own_Ls n) impl_Yard_own_ann n impl_Yard_own_code := loopsOk_all (cs := [impl_Yard_own_3_c]) (by kernel_rfl) ⟨⟨_, by kernel_rfl, impl_Yard_own_3_le n⟩, trivial⟩
theorem impl_Yard_own_ok (n : Nat) : EntOk Try.prog (ents n) (impl_Yard_own_ent n) := by
  intro hs ar y hg h
  replace h : impl_Yard_own_D n ar = some y := h
  unfold impl_Yard_own_D at h
  replace h := ocons_some h
  obtain ⟨a0, r0, rfl, h⟩ := h
  replace h := onil_some h
  obtain ⟨rfl, h⟩ := h
  obtain ⟨y0, qh0, h⟩ := obind_some h
  rw [argV_eq ok qh0]
  exact call_of (phiE_nat _ _) hs ok mixed Try.func99 (c := impl_Yard_own_code) (by kernel_rfl) (impl_Yard_own_lo n) (by kernel_rfl) (by kernel_rfl) (by kernel_rfl) impl_Yard_own_de ((impl_Yard_own_tie n y0).trans h)
noncomputable def impl_in_code : Code := match Try.f101.body with | some c => c | none => .skip
def impl_in_ann : Ann := fun id => none
def impl_in_Ls (n : Nat) : Nat → Option (LSpec T) := fun id => none
theorem impl_in_tie (n : Nat) (n0 : Int) (least1 : Int) (most2 : Int) : evF (T := T) (Phi n 21) (impl_in_Ls n) impl_in_ann n Try.f101 (sg 101) [vA T 3 n0, vA T 3 least1, vA T 3 most2] impl_in_dec = impl_in n n0 least1 most2 := by kernel_rfl
theorem impl_in_lo (n : Nat) : LoopsOk (T := T) (Phi n 21) (impl_in_Ls n) impl_in_ann n impl_in_code := loopsOk_all (cs := []) (by kernel_rfl) trivial
theorem impl_in_ok (n : Nat) : EntOk Try.prog (ents n) (impl_in_ent n) := by
  intro hs ar y hg h
  replace h : impl_in_D n ar = some y := h
  unfold impl_in_D at h
  replace h := ocons_some h
  obtain ⟨a0, r0, rfl, h⟩ := h
  replace h := ocons_some h
  obtain ⟨a1, r1, rfl, h⟩ := h
  replace h := ocons_some h
  obtain ⟨a2, r2, rfl, h⟩ := h
  replace h := onil_some h
  obtain ⟨rfl, h⟩ := h
  obtain ⟨n0, qh0, h⟩ := obind_some h
  obtain ⟨least1, qh1, h⟩ := obind_some h
  obtain ⟨most2, qh2, h⟩ := obind_some h
  rw [argV_eq ok qh0, argV_eq ok qh1, argV_eq ok qh2]
  exact call_of (phiE_nat _ _) hs ok mixed Try.func101 (c := impl_in_code) (by kernel_rfl) (impl_in_lo n) (by kernel_rfl) (by kernel_rfl) (by kernel_rfl) impl_in_de ((impl_in_tie n n0 least1 most2).trans h)
noncomputable def impl_idRight_code : Code := match Try.f102.body with | some c => c | none => .skip
def impl_idRight_ann : Ann := fun id => none
def impl_idRight_Ls (n : Nat) : Nat → Option (LSpec T) := fun id => none
theorem impl_idRight_tie (n : Nat) (n0 : Int) : evF (T := T) (Phi n 22) (impl_idRight_Ls n) impl_idRight_ann n Try.f102 (sg 102) [vA T 3 n0] impl_idRight_dec = impl_idRight n n0 := by kernel_rfl
theorem impl_idRight_lo (n : Nat) : LoopsOk (T := T) (Phi n 22) (impl_idRight_Ls n) impl_idRight_ann n impl_idRight_code := loopsOk_all (cs := []) (by kernel_rfl) trivial
theorem impl_idRight_ok (n : Nat) : EntOk Try.prog (ents n) (impl_idRight_ent n) := by
  intro hs ar y hg h
  replace h : impl_idRight_D n ar = some y := h
  unfold impl_idRight_D at h
  replace h := ocons_some h
  obtain ⟨a0, r0, rfl, h⟩ := h
  replace h := onil_some h
  obtain ⟨rfl, h⟩ := h
  obtain ⟨n0, qh0, h⟩ := obind_some h
  rw [argV_eq ok qh0]
  exact call_of (phiE_nat _ _) hs ok mixed Try.func102 (c := impl_idRight_code) (by kernel_rfl) (impl_idRight_lo n) (by kernel_rfl) (by kernel_rfl) (by kernel_rfl) impl_idRight_de ((impl_idRight_tie n n0).trans h)
noncomputable def impl_YardOk_code : Code := match Try.f100.body with | some c => c | none => .skip
def impl_YardOk_5_sv : List Sv := [.one (.ptr 8 0 0), .one (.map 152), .one (.arr 23), .one (.int .i64), .one (.int .i64)]
def impl_YardOk_5_so : List So := [.var [.int .i64, .arr 23], .map 3 4]
def impl_YardOk_5_emb (c : List (List Int) × Int × SYard) (x : Int × (List (Int × Bool))) : EVs T impl_YardOk_5_sv × EOs T impl_YardOk_5_so := (((), (), c.1, c.2.1, x.1, ()), ((c.2.2.High, c.2.2.Stacks, ()), x.2, ()))
def impl_YardOk_5_prj (y : EVs T impl_YardOk_5_sv × EOs T impl_YardOk_5_so) : (List (List Int) × Int × SYard) × (Int × (List (Int × Bool))) := ((y.1.2.2.1, y.1.2.2.2.1, ((⟨y.2.1.1, y.2.1.2.1⟩ : SYard) : SYard)), (y.1.2.2.2.2.1, y.2.2.1))
def impl_YardOk_5_b (n : Nat) {R : Type} (K : Ex → Sm.St T → Option R) (c : List (List Int) × Int × SYard) (x : Int × (List (Int × Bool))) (J : (Int × (List (Int × Bool))) → Option R) : Option R :=
  impl_YardOk_L5 n (K (.exit 0) (stOf (T := T) [] [] [] [] () ())) (fun (y0 : Bool) => K .ret (stOf (T := T) [2] [] [.one (.bool)] [] (y0, ()) ())) (fun z0 z1 => J (z0, z1)) c.1 c.2.1 x.1 c.2.2 x.2
def impl_YardOk_5_sp (n : Nat) : LSpec T := mkSpec T ⟨[], [1, 3, 21, 22, 23], [8, 152]⟩ impl_YardOk_5_sv impl_YardOk_5_so (List (List Int) × Int × SYard) (Int × (List (Int × Bool))) impl_YardOk_5_emb impl_YardOk_5_prj (impl_YardOk_5_b n)
noncomputable def impl_YardOk_5_c : Code := ((loopCodes impl_YardOk_code)[0]?).getD .skip
def impl_YardOk_10_sv : List Sv := [.one (.ptr 8 0 0), .one (.map 152), .one (.arr 23), .one (.int .i64), .one (.int .i64), .one (.arr 3), .one (.int .i64), .one (.int .i64)]
def impl_YardOk_10_so : List So := [.var [.int .i64, .arr 23], .map 3 4]
def impl_YardOk_10_emb (c : List (List Int) × Int × Int × List Int × Int × SYard) (x : Int × (List (Int × Bool))) : EVs T impl_YardOk_10_sv × EOs T impl_YardOk_10_so := (((), (), c.1, c.2.1, c.2.2.1, c.2.2.2.1, c.2.2.2.2.1, x.1, ()), ((c.2.2.2.2.2.High, c.2.2.2.2.2.Stacks, ()), x.2, ()))
def impl_YardOk_10_prj (y : EVs T impl_YardOk_10_sv × EOs T impl_YardOk_10_so) : (List (List Int) × Int × Int × List Int × Int × SYard) × (Int × (List (Int × Bool))) := ((y.1.2.2.1, y.1.2.2.2.1, y.1.2.2.2.2.1, y.1.2.2.2.2.2.1, y.1.2.2.2.2.2.2.1, ((⟨y.2.1.1, y.2.1.2.1⟩ : SYard) : SYard)), (y.1.2.2.2.2.2.2.2.1, y.2.2.1))
def impl_YardOk_10_b (n : Nat) {R : Type} (K : Ex → Sm.St T → Option R) (c : List (List Int) × Int × Int × List Int × Int × SYard) (x : Int × (List (Int × Bool))) (J : (Int × (List (Int × Bool))) → Option R) : Option R :=
  impl_YardOk_L10 n (fun (y4 : List (Int × Bool)) => K (.exit 2) (stOf (T := T) [1, 3, 21, 22, 23] [8, 152] [.one (.ptr 8 0 0), .one (.map 152), .one (.arr 23), .one (.int .i64), .one (.int .i64)] [.var [.int .i64, .arr 23], .map 3 4] ((), (), c.1, c.2.1, c.2.2.1, ()) ((c.2.2.2.2.2.High, c.2.2.2.2.2.Stacks, ()), y4, ()))) (fun (y0 : Bool) => K .ret (stOf (T := T) [2] [] [.one (.bool)] [] (y0, ()) ())) (fun z0 z1 => J (z0, z1)) c.1 c.2.1 c.2.2.1 c.2.2.2.1 c.2.2.2.2.1 x.1 c.2.2.2.2.2 x.2
def impl_YardOk_10_sp (n : Nat) : LSpec T := mkSpec T ⟨[], [1, 3, 21, 22, 23, 32, 33, 34], [8, 152]⟩ impl_YardOk_10_sv impl_YardOk_10_so (List (List Int) × Int × Int × List Int × Int × SYard) (Int × (List (Int × Bool))) impl_YardOk_10_emb impl_YardOk_10_prj (impl_YardOk_10_b n)
noncomputable def impl_YardOk_10_c : Code := ((loopCodes impl_YardOk_code)[1]?).getD .skip
def impl_YardOk_ann : Ann := fun id => bif Nat.beq id 3000005 then some ⟨[], [], []⟩ else bif Nat.beq id 2000005 then some ⟨[], [2], []⟩ else bif Nat.beq id 5000010 then some ⟨[], [1, 3, 21, 22, 23], [8, 152]⟩ else bif Nat.beq id 2000010 then some ⟨[], [2], []⟩ else none
def impl_YardOk_Ls (n : Nat) : Nat → Option (LSpec T) := fun id => bif Nat.beq id 5 then some (impl_YardOk_5_sp n) else bif Nat.beq id 10 then some (impl_YardOk_10_sp n) else none
theorem impl_YardOk_5_le (n : Nat) : LoopEq (T := T) (Phi n 23) (impl_YardOk_Ls n) impl_YardOk_ann n impl_YardOk_5_c (impl_YardOk_5_sp n) := ⟨mkSpec_dec (fun y => rfl), fun c x => by kernel_rfl, fun K J c x => by kernel_rfl⟩
theorem impl_YardOk_10_le (n : Nat) : LoopEq (T := T) (Phi n 23) (impl_YardOk_Ls n) impl_YardOk_ann n impl_YardOk_10_c (impl_YardOk_10_sp n) := ⟨mkSpec_dec (fun y => rfl), fun c x => by kernel_rfl, fun K J c x => by kernel_rfl⟩
theorem impl_YardOk_tie (n : Nat) (y0 : SYard) : evF (T := T) (Phi n 23) (impl_YardOk_Ls n) impl_YardOk_ann n Try.f100 (sg 100) [vA T 41 y0] impl_YardOk_dec = impl_YardOk n y0 := by kernel_rfl
theorem impl_YardOk_lo (n : Nat) : LoopsOk (T := T) (Phi n 23) (impl_YardOk_Ls n) impl_YardOk_ann n impl_YardOk_code := loopsOk_all (cs := [impl_YardOk_5_c, impl_YardOk_10_c]) (by kernel_rfl) ⟨⟨_, by kernel_rfl, impl_YardOk_5_le n⟩, ⟨_, by kernel_rfl, impl_YardOk_10_le n⟩, trivial⟩
theorem impl_YardOk_ok (n : Nat) : EntOk Try.prog (ents n) (impl_YardOk_ent n) := by
  intro hs ar y hg h
  replace h : impl_YardOk_D n ar = some y := h
  unfold impl_YardOk_D at h
  replace h := ocons_some h
  obtain ⟨a0, r0, rfl, h⟩ := h
  replace h := onil_some h
  obtain ⟨rfl, h⟩ := h
  obtain ⟨y0, qh0, h⟩ := obind_some h
  rw [argV_eq ok qh0]
  exact call_of (phiE_nat _ _) hs ok mixed Try.func100 (c := impl_YardOk_code) (by kernel_rfl) (impl_YardOk_lo n) (by kernel_rfl) (by kernel_rfl) (by kernel_rfl) impl_YardOk_de ((impl_YardOk_tie n y0).trans h)
noncomputable def slices_Index_int_int_code : Code := match Try.f179.body with | some c => c | none => .skip
def slices_Index_int_int_2_sv : List Sv := [.one (.arr 3), .one (.int .i64), .one (.int .i64), .one (.int .i64)]
def slices_Index_int_int_2_so : List So := []
def slices_Index_int_int_2_emb (c : List Int × Int × Int) (x : Int) : EVs T slices_Index_int_int_2_sv × EOs T slices_Index_int_int_2_so := ((c.1, c.2.1, c.2.2, x, ()), ())
def slices_Index_int_int_2_prj (y : EVs T slices_Index_int_int_2_sv × EOs T slices_Index_int_int_2_so) : (List Int × Int × Int) × Int := ((y.1.1, y.1.2.1, y.1.2.2.1), (y.1.2.2.2.1))
def slices_Index_int_int_2_b (n : Nat) {R : Type} (K : Ex → Sm.St T → Option R) (c : List Int × Int × Int) (x : Int) (J : Int → Option R) : Option R :=
  slices_Index_int_int_L2 n (K (.exit 0) (stOf (T := T) [] [] [] [] () ())) (fun (y0 : Int) => K .ret (stOf (T := T) [4] [] [.one (.int .i64)] [] (y0, ()) ())) J c.1 c.2.1 c.2.2 x
def slices_Index_int_int_2_sp (n : Nat) : LSpec T := mkSpec T ⟨[], [0, 1, 7, 8], []⟩ slices_Index_int_int_2_sv slices_Index_int_int_2_so (List Int × Int × Int) (Int) slices_Index_int_int_2_emb slices_Index_int_int_2_prj (slices_Index_int_int_2_b n)
noncomputable def slices_Index_int_int_2_c : Code := ((loopCodes slices_Index_int_int_code)[0]?).getD .skip
def slices_Index_int_int_ann : Ann := fun id => bif Nat.beq id 3000002 then some ⟨[], [], []⟩ else bif Nat.beq id 2000002 then some ⟨[], [4], []⟩ else none
def slices_Index_int_int_Ls (n : Nat) : Nat → Option (LSpec T) := fun id => bif Nat.beq id 2 then some (slices_Index_int_int_2_sp n) else none
theorem slices_Index_int_int_2_le (n : Nat) : LoopEq (T := T) (Phi n 24) (slices_Index_int_int_Ls n) slices_Index_int_int_ann n slices_Index_int_int_2_c (slices_Index_int_int_2_sp n) := ⟨mkSpec_dec (fun y => rfl), fun c x => by kernel_rfl, fun K J c x => by kernel_rfl⟩
theorem slices_Index_int_int_tie (n : Nat) (s0 : List Int) (v1 : Int) : evF (T := T) (Phi n 24) (slices_Index_int_int_Ls n) slices_Index_int_int_ann n Try.f179 (sg 179) [vA T 23 s0, vA T 3 v1] slices_Index_int_int_dec = slices_Index_int_int n s0 v1 := by kernel_rfl
theorem slices_Index_int_int_lo (n : Nat) : LoopsOk (T := T) (Phi n 24) (slices_Index_int_int_Ls n) slices_Index_int_int_ann n slices_Index_int_int_code := loopsOk_all (cs := [slices_Index_int_int_2_c]) (by kernel_rfl) ⟨⟨_, by kernel_rfl, slices_Index_int_int_2_le n⟩, trivial⟩
theorem slices_Index_int_int_ok (n : Nat) : EntOk Try.prog (ents n) (slices_Index_int_int_ent n) := by
  intro hs ar y hg h
  replace h : slices_Index_int_int_D n ar = some y := h
  unfold slices_Index_int_int_D at h
  replace h := ocons_some h
  obtain ⟨a0, r0, rfl, h⟩ := h
  replace h := ocons_some h
  obtain ⟨a1, r1, rfl, h⟩ := h
  replace h := onil_some h
  obtain ⟨rfl, h⟩ := h
  obtain ⟨s0, qh0, h⟩ := obind_some h
  obtain ⟨v1, qh1, h⟩ := obind_some h
  rw [argV_eq ok qh0, argV_eq ok qh1]
  exact call_of (phiE_nat _ _) hs ok mixed Try.func179 (c := slices_Index_int_int_code) (by kernel_rfl) (slices_Index_int_int_lo n) (by kernel_rfl) (by kernel_rfl) (by kernel_rfl) slices_Index_int_int_de ((slices_Index_int_int_tie n s0 v1).trans h)
noncomputable def impl_FindBox_code : Code := match Try.f103.body with | some c => c | none => .skip
def impl_FindBox_3_sv : List Sv := [.one (.int .i64), .one (.arr 23), .one (.int .i64), .one (.int .i64)]
def impl_FindBox_3_so : List So := []
def impl_FindBox_3_emb (c : Int × List (List Int) × Int) (x : Int) : EVs T impl_FindBox_3_sv × EOs T impl_FindBox_3_so := ((c.1, c.2.1, c.2.2, x, ()), ())
def impl_FindBox_3_prj (y : EVs T impl_FindBox_3_sv × EOs T impl_FindBox_3_so) : (Int × List (List Int) × Int) × Int := ((y.1.1, y.1.2.1, y.1.2.2.1), (y.1.2.2.2.1))
def impl_FindBox_3_b (n : Nat) {R : Type} (K : Ex → Sm.St T → Option R) (c : Int × List (List Int) × Int) (x : Int) (J : Int → Option R) : Option R :=
  impl_FindBox_L3 n (K (.exit 0) (stOf (T := T) [] [] [] [] () ())) (fun (y0 : Int) (y1 : Int) (y2 : Bool) => K .ret (stOf (T := T) [4, 5, 6] [] [.one (.int .i64), .one (.int .i64), .one (.bool)] [] (y0, y1, y2, ()) ())) J c.1 c.2.1 c.2.2 x
def impl_FindBox_3_sp (n : Nat) : LSpec T := mkSpec T ⟨[], [1, 13, 14, 15], []⟩ impl_FindBox_3_sv impl_FindBox_3_so (Int × List (List Int) × Int) (Int) impl_FindBox_3_emb impl_FindBox_3_prj (impl_FindBox_3_b n)
noncomputable def impl_FindBox_3_c : Code := ((loopCodes impl_FindBox_code)[0]?).getD .skip
def impl_FindBox_ann : Ann := fun id => bif Nat.beq id 3000003 then some ⟨[], [], []⟩ else bif Nat.beq id 2000003 then some ⟨[], [4, 5, 6], []⟩ else none
def impl_FindBox_Ls (n : Nat) : Nat → Option (LSpec T) := fun id => bif Nat.beq id 3 then some (impl_FindBox_3_sp n) else none
theorem impl_FindBox_3_le (n : Nat) : LoopEq (T := T) (Phi n 25) (impl_FindBox_Ls n) impl_FindBox_ann n impl_FindBox_3_c (impl_FindBox_3_sp n) := ⟨mkSpec_dec (fun y => rfl), fun c x => by kernel_rfl, fun K J c x => by kernel_rfl⟩
theorem impl_FindBox_tie (n : Nat) (y0 : SYard) (box1 : Int) : evF (T := T) (Phi n 25) (impl_FindBox_Ls n) impl_FindBox_ann n Try.f103 (sg 103) [vA T 41 y0, vA T 3 box1] impl_FindBox_dec = impl_FindBox n y0 box1 := by kernel_rfl
theorem impl_FindBox_lo (n : Nat) : LoopsOk (T := T) (Phi n 25) (impl_FindBox_Ls n) impl_FindBox_ann n impl_FindBox_code := loopsOk_all (cs := [impl_FindBox_3_c]) (by kernel_rfl) ⟨⟨_, by kernel_rfl, impl_FindBox_3_le n⟩, trivial⟩
theorem impl_FindBox_ok (n : Nat) : EntOk Try.prog (ents n) (impl_FindBox_ent n) := by
  intro hs ar y hg h
  replace h : impl_FindBox_D n ar = some y := h
  unfold impl_FindBox_D at h
  replace h := ocons_some h
  obtain ⟨a0, r0, rfl, h⟩ := h
  replace h := ocons_some h
  obtain ⟨a1, r1, rfl, h⟩ := h
  replace h := onil_some h
  obtain ⟨rfl, h⟩ := h
  obtain ⟨y0, qh0, h⟩ := obind_some h
  obtain ⟨box1, qh1, h⟩ := obind_some h
  rw [argV_eq ok qh0, argV_eq ok qh1]
  exact call_of (phiE_nat _ _) hs ok mixed Try.func103 (c := impl_FindBox_code) (by kernel_rfl) (impl_FindBox_lo n) (by kernel_rfl) (by kernel_rfl) (by kernel_rfl) impl_FindBox_de ((impl_FindBox_tie n y0 box1).trans h)
noncomputable def impl_Yard_lift_code : Code := match Try.f105.body with | some c => c | none => .skip
def impl_Yard_lift_ann : Ann := fun id => none
def impl_Yard_lift_Ls (n : Nat) : Nat → Option (LSpec T) := fun id => none
theorem impl_Yard_lift_tie (n : Nat) (y0 : SYard) (from1 : Int) (to2 : Int) : evF (T := T) (Phi n 26) (impl_Yard_lift_Ls n) impl_Yard_lift_ann n Try.f105 (sg 105) [vA T 41 y0, vA T 3 from1, vA T 3 to2] impl_Yard_lift_dec = impl_Yard_lift n y0 from1 to2 := by kernel_rfl
theorem impl_Yard_lift_lo (n : Nat) : LoopsOk (T := T) (Phi n 26) (impl_Yard_lift_Ls n) impl_Yard_lift_ann n impl_Yard_lift_code := loopsOk_all (cs := []) (by kernel_rfl) trivial
theorem impl_Yard_lift_ok (n : Nat) : EntOk Try.prog (ents n) (impl_Yard_lift_ent n) := by
  intro hs ar y hg h
  replace h : impl_Yard_lift_D n ar = some y := h
  unfold impl_Yard_lift_D at h
  replace h := ocons_some h
  obtain ⟨a0, r0, rfl, h⟩ := h
  replace h := ocons_some h
  obtain ⟨a1, r1, rfl, h⟩ := h
  replace h := ocons_some h
  obtain ⟨a2, r2, rfl, h⟩ := h
  replace h := onil_some h
  obtain ⟨rfl, h⟩ := h
  obtain ⟨y0, qh0, h⟩ := obind_some h
  obtain ⟨from1, qh1, h⟩ := obind_some h
  obtain ⟨to2, qh2, h⟩ := obind_some h
  rw [argV_eq ok qh0, argV_eq ok qh1, argV_eq ok qh2]
  exact call_of (phiE_nat _ _) hs ok mixed Try.func105 (c := impl_Yard_lift_code) (by kernel_rfl) (impl_Yard_lift_lo n) (by kernel_rfl) (by kernel_rfl) (by kernel_rfl) impl_Yard_lift_de ((impl_Yard_lift_tie n y0 from1 to2).trans h)
noncomputable def impl_DoYard_code : Code := match Try.f23.body with | some c => c | none => .skip
def impl_DoYard_25_sv : List Sv := [.one (.ptr 16 0 0), .one (.ptr 32 0 0), .one (.ptr 56 0 0), .one (.ptr 72 0 0), .one (.int .i64), .one (.int .i64), .one (.int .i64)]
def impl_DoYard_25_so : List So := [.var [.int .i64, .arr 23], .var [.int .i64, .own 3000000 23 false], .arr 23 false, .var [.int .i64, .own 3000001 23 false], .arr 23 false, .var [.int .i64, .own 3000002 23 false], .arr 23 false]
def impl_DoYard_25_emb (c : Int × Int × SYard × Int × List (List Int) × Int × List (List Int) × Int) (x : Int × List (List Int)) : EVs T impl_DoYard_25_sv × EOs T impl_DoYard_25_so := (((), (), (), (), c.1, c.2.1, x.1, ()), ((c.2.2.1.High, c.2.2.1.Stacks, ()), (c.2.2.2.1, (), ()), c.2.2.2.2.1, (c.2.2.2.2.2.1, (), ()), c.2.2.2.2.2.2.1, (c.2.2.2.2.2.2.2, (), ()), x.2, ()))
def impl_DoYard_25_prj (y : EVs T impl_DoYard_25_sv × EOs T impl_DoYard_25_so) : (Int × Int × SYard × Int × List (List Int) × Int × List (List Int) × Int) × (Int × List (List Int)) := ((y.1.2.2.2.2.1, y.1.2.2.2.2.2.1, ((⟨y.2.1.1, y.2.1.2.1⟩ : SYard) : SYard), y.2.2.1.1, y.2.2.2.1, y.2.2.2.2.1.1, y.2.2.2.2.2.1, y.2.2.2.2.2.2.1.1), (y.1.2.2.2.2.2.2.1, y.2.2.2.2.2.2.2.1))
def impl_DoYard_25_b (n : Nat) {R : Type} (K : Ex → Sm.St T → Option R) (c : Int × Int × SYard × Int × List (List Int) × Int × List (List Int) × Int) (x : Int × List (List Int)) (J : (Int × List (List Int)) → Option R) : Option R :=
  impl_DoYard_L25 n (fun (y2 : Int) (y6 : List (List Int)) => K (.exit 3) (stOf (T := T) [4, 9, 10, 11, 13] [32, 3000000, 72, 3000002] [.one (.ptr 32 0 0), .one (.ptr 72 0 0), .one (.int .i64), .one (.int .i64), .one (.int .i64)] [.var [.int .i64, .own 3000000 23 false], .arr 23 false, .var [.int .i64, .own 3000002 23 false], .arr 23 false] ((), (), c.1, c.2.1, y2, ()) ((c.2.2.2.1, (), ()), c.2.2.2.2.1, (c.2.2.2.2.2.2.2, (), ()), y6, ()))) (fun (y0 : Int) (y1 : Int) => K .ret (stOf (T := T) [4, 5, 6] [32, 3000000] [.one (.ptr 32 0 0), .one (.int .i64), .one (.int .i64)] [.var [.int .i64, .own 3000000 23 false], .arr 23 false] ((), y0, y1, ()) ((c.2.2.2.2.2.1, (), ()), c.2.2.2.2.2.2.1, ()))) (fun z0 z1 => J (z0, z1)) c.1 c.2.1 x.1 c.2.2.1 c.2.2.2.1 c.2.2.2.2.1 c.2.2.2.2.2.1 c.2.2.2.2.2.2.1 c.2.2.2.2.2.2.2 x.2
def impl_DoYard_25_sp (n : Nat) : LSpec T := mkSpec T ⟨[((.cell 32 1), 3000000, 23), ((.cell 56 1), 3000001, 23), ((.cell 72 1), 3000002, 23)], [2, 4, 7, 9, 10, 11, 13], [16, 32, 3000000, 56, 3000001, 72, 3000002]⟩ impl_DoYard_25_sv impl_DoYard_25_so (Int × Int × SYard × Int × List (List Int) × Int × List (List Int) × Int) (Int × List (List Int)) impl_DoYard_25_emb impl_DoYard_25_prj (impl_DoYard_25_b n)
noncomputable def impl_DoYard_25_c : Code := ((loopCodes impl_DoYard_code)[0]?).getD .skip
def impl_DoYard_29_sv : List Sv := [.one (.ptr 16 0 0), .one (.ptr 32 0 0), .one (.ptr 56 0 0), .one (.ptr 72 0 0), .one (.int .i64), .one (.int .i64), .one (.int .i64), .one (.int .i64), .one (.own 3000002 23 false), .one (.int .i64), .one (.int .i64)]
def impl_DoYard_29_so : List So := [.var [.int .i64, .arr 23], .var [.int .i64, .own 3000000 23 false], .arr 23 false, .var [.int .i64, .own 3000001 23 false], .arr 23 false, .var [.int .i64, .own 3000002 23 false], .arr 23 false]
def impl_DoYard_29_emb (c : Int × Int × Int × Int × SYard × Int × List (List Int) × Int × List (List Int) × Int × List (List Int)) (x : Int × Int) : EVs T impl_DoYard_29_sv × EOs T impl_DoYard_29_so := (((), (), (), (), c.1, c.2.1, c.2.2.1, x.1, (), c.2.2.2.1, x.2, ()), ((c.2.2.2.2.1.High, c.2.2.2.2.1.Stacks, ()), (c.2.2.2.2.2.1, (), ()), c.2.2.2.2.2.2.1, (c.2.2.2.2.2.2.2.1, (), ()), c.2.2.2.2.2.2.2.2.1, (c.2.2.2.2.2.2.2.2.2.1, (), ()), c.2.2.2.2.2.2.2.2.2.2, ()))
def impl_DoYard_29_prj (y : EVs T impl_DoYard_29_sv × EOs T impl_DoYard_29_so) : (Int × Int × Int × Int × SYard × Int × List (List Int) × Int × List (List Int) × Int × List (List Int)) × (Int × Int) := ((y.1.2.2.2.2.1, y.1.2.2.2.2.2.1, y.1.2.2.2.2.2.2.1, y.1.2.2.2.2.2.2.2.2.2.1, ((⟨y.2.1.1, y.2.1.2.1⟩ : SYard) : SYard), y.2.2.1.1, y.2.2.2.1, y.2.2.2.2.1.1, y.2.2.2.2.2.1, y.2.2.2.2.2.2.1.1, y.2.2.2.2.2.2.2.1), (y.1.2.2.2.2.2.2.2.1, y.1.2.2.2.2.2.2.2.2.2.2.1))
def impl_DoYard_29_b (n : Nat) {R : Type} (K : Ex → Sm.St T → Option R) (c : Int × Int × Int × Int × SYard × Int × List (List Int) × Int × List (List Int) × Int × List (List Int)) (x : Int × Int) (J : (Int × Int) → Option R) : Option R :=
  impl_DoYard_L29 n (fun (y3 : Int) => K (.exit 5) (stOf (T := T) [2, 4, 7, 9, 10, 11, 13, 14] [16, 32, 3000000, 56, 3000001, 72, 3000002] [.one (.ptr 16 0 0), .one (.ptr 32 0 0), .one (.ptr 56 0 0), .one (.ptr 72 0 0), .one (.int .i64), .one (.int .i64), .one (.int .i64), .one (.int .i64)] [.var [.int .i64, .arr 23], .var [.int .i64, .own 3000000 23 false], .arr 23 false, .var [.int .i64, .own 3000001 23 false], .arr 23 false, .var [.int .i64, .own 3000002 23 false], .arr 23 false] ((), (), (), (), c.1, c.2.1, c.2.2.1, y3, ()) ((c.2.2.2.2.1.High, c.2.2.2.2.1.Stacks, ()), (c.2.2.2.2.2.1, (), ()), c.2.2.2.2.2.2.1, (c.2.2.2.2.2.2.2.1, (), ()), c.2.2.2.2.2.2.2.2.1, (c.2.2.2.2.2.2.2.2.2.1, (), ()), c.2.2.2.2.2.2.2.2.2.2, ()))) (fun z0 z1 => J (z0, z1)) c.1 c.2.1 c.2.2.1 x.1 c.2.2.2.1 x.2 c.2.2.2.2.1 c.2.2.2.2.2.1 c.2.2.2.2.2.2.1 c.2.2.2.2.2.2.2.1 c.2.2.2.2.2.2.2.2.1 c.2.2.2.2.2.2.2.2.2.1 c.2.2.2.2.2.2.2.2.2.2
def impl_DoYard_29_sp (n : Nat) : LSpec T := mkSpec T ⟨[((.reg 167), 3000003, 23), ((.cell 32 1), 3000000, 23), ((.cell 56 1), 3000001, 23), ((.cell 72 1), 3000002, 23)], [2, 4, 7, 9, 10, 11, 13, 14, 167, 168, 169], [16, 32, 3000000, 56, 3000001, 72, 3000002]⟩ impl_DoYard_29_sv impl_DoYard_29_so (Int × Int × Int × Int × SYard × Int × List (List Int) × Int × List (List Int) × Int × List (List Int)) (Int × Int) impl_DoYard_29_emb impl_DoYard_29_prj (impl_DoYard_29_b n)
noncomputable def impl_DoYard_29_c : Code := ((loopCodes impl_DoYard_code)[1]?).getD .skip
def impl_DoYard_ann : Ann := fun id => bif Nat.beq id 6000025 then some ⟨[((.cell 32 1), 3000000, 23), ((.cell 72 1), 3000002, 23)], [4, 9, 10, 11, 13], [32, 3000000, 72, 3000002]⟩ else bif Nat.beq id 2000025 then some ⟨[((.cell 32 1), 3000000, 23)], [4, 5, 6], [32, 3000000]⟩ else bif Nat.beq id 8000029 then some ⟨[((.cell 32 1), 3000000, 23), ((.cell 56 1), 3000001, 23), ((.cell 72 1), 3000002, 23)], [2, 4, 7, 9, 10, 11, 13, 14], [16, 32, 3000000, 56, 3000001, 72, 3000002]⟩ else none
def impl_DoYard_Ls (n : Nat) : Nat → Option (LSpec T) := fun id => bif Nat.beq id 25 then some (impl_DoYard_25_sp n) else bif Nat.beq id 29 then some (impl_DoYard_29_sp n) else none
theorem impl_DoYard_25_le (n : Nat) : LoopEq (T := T) (Phi n 27) (impl_DoYard_Ls n) impl_DoYard_ann n impl_DoYard_25_c (impl_DoYard_25_sp n) := ⟨mkSpec_dec (fun y => rfl), fun c x => by kernel_rfl, fun K J c x => by kernel_rfl⟩
theorem impl_DoYard_29_le (n : Nat) : LoopEq (T := T) (Phi n 27) (impl_DoYard_Ls n) impl_DoYard_ann n impl_DoYard_29_c (impl_DoYard_29_sp n) := ⟨mkSpec_dec (fun y => rfl), fun c x => by kernel_rfl, fun K J c x => by kernel_rfl⟩
theorem impl_DoYard_tie (n : Nat) (y0 : SYard) (op1 : SYardOp) : evF (T := T) (Phi n 27) (impl_DoYard_Ls n) impl_DoYard_ann n Try.f23 (sg 23) [vA T 41 y0, vA T 45 op1] impl_DoYard_dec = impl_DoYard n y0 op1 := by kernel_rfl
theorem impl_DoYard_lo (n : Nat) : LoopsOk (T := T) (Phi n 27) (impl_DoYard_Ls n) impl_DoYard_ann n impl_DoYard_code := loopsOk_all (cs := [impl_DoYard_25_c, impl_DoYard_29_c]) (by kernel_rfl) ⟨⟨_, by kernel_rfl, impl_DoYard_25_le n⟩, ⟨_, by kernel_rfl, impl_DoYard_29_le n⟩, trivial⟩
theorem impl_DoYard_ok (n : Nat) : EntOk Try.prog (ents n) (impl_DoYard_ent n) := by
  intro hs ar y hg h
  replace h : impl_DoYard_D n ar = some y := h
  unfold impl_DoYard_D at h
  replace h := ocons_some h
  obtain ⟨a0, r0, rfl, h⟩ := h
  replace h := ocons_some h
  obtain ⟨a1, r1, rfl, h⟩ := h
  replace h := onil_some h
  obtain ⟨rfl, h⟩ := h
  obtain ⟨y0, qh0, h⟩ := obind_some h
  obtain ⟨op1, qh1, h⟩ := obind_some h
  rw [argV_eq ok qh0, argV_eq ok qh1]
  exact call_of (phiE_nat _ _) hs ok mixed Try.func23 (c := impl_DoYard_code) (by kernel_rfl) (impl_DoYard_lo n) (by kernel_rfl) (by kernel_rfl) (by kernel_rfl) impl_DoYard_de ((impl_DoYard_tie n y0 op1).trans h)
noncomputable def impl_RunYard_code : Code := match Try.f30.body with | some c => c | none => .skip
def impl_RunYard_7_sv : List Sv := [.one (.ptr 16 0 0), .one (.ptr 32 0 0), .one (.own 3000000 3 false), .one (.int .i64), .one (.arr 45), .one (.int .i64), .one (.int .i64)]
def impl_RunYard_7_so : List So := [.var [.int .i64, .own 3000001 23 false], .arr 23 false, .var [.int .i64, .own 3000002 23 false], .arr 23 false, .arr 3 false]
def impl_RunYard_7_emb (c : List SYardOp × Int × Int × List (List Int)) (x : Int × Int × Int × List (List Int) × List Int) : EVs T impl_RunYard_7_sv × EOs T impl_RunYard_7_so := (((), (), (), x.1, c.1, c.2.1, x.2.1, ()), ((x.2.2.1, (), ()), x.2.2.2.1, (c.2.2.1, (), ()), c.2.2.2, x.2.2.2.2, ()))
def impl_RunYard_7_prj (y : EVs T impl_RunYard_7_sv × EOs T impl_RunYard_7_so) : (List SYardOp × Int × Int × List (List Int)) × (Int × Int × Int × List (List Int) × List Int) := ((y.1.2.2.2.2.1, y.1.2.2.2.2.2.1, y.2.2.2.1.1, y.2.2.2.2.1), (y.1.2.2.2.1, y.1.2.2.2.2.2.2.1, y.2.1.1, y.2.2.1, y.2.2.2.2.2.1))
def impl_RunYard_7_b (n : Nat) {R : Type} (K : Ex → Sm.St T → Option R) (c : List SYardOp × Int × Int × List (List Int)) (x : Int × Int × Int × List (List Int) × List Int) (J : (Int × Int × Int × List (List Int) × List Int) → Option R) : Option R :=
  impl_RunYard_L7 n (fun (y0 : Int) (y1 : Int) (y2 : List (List Int)) (y5 : List Int) => K (.exit 0) (stOf (T := T) [2, 4, 7, 8] [16, 3000001, 32, 3000002, 3000000] [.one (.ptr 16 0 0), .one (.ptr 32 0 0), .one (.own 3000000 3 false), .one (.int .i64)] [.var [.int .i64, .own 3000001 23 false], .arr 23 false, .var [.int .i64, .own 3000002 23 false], .arr 23 false, .arr 3 false] ((), (), (), y0, ()) ((y1, (), ()), y2, (c.2.2.1, (), ()), c.2.2.2, y5, ()))) (fun z0 z1 z2 z3 z4 => J (z0, z1, z2, z3, z4)) x.1 c.1 c.2.1 x.2.1 x.2.2.1 x.2.2.2.1 c.2.2.1 c.2.2.2 x.2.2.2.2
def impl_RunYard_7_sp (n : Nat) : LSpec T := mkSpec T ⟨[((.reg 7), 3000000, 3), ((.cell 16 1), 3000001, 23), ((.cell 32 1), 3000002, 23)], [2, 4, 7, 8, 19, 20, 21], [16, 3000001, 32, 3000002, 3000000]⟩ impl_RunYard_7_sv impl_RunYard_7_so (List SYardOp × Int × Int × List (List Int)) (Int × Int × Int × List (List Int) × List Int) impl_RunYard_7_emb impl_RunYard_7_prj (impl_RunYard_7_b n)
noncomputable def impl_RunYard_7_c : Code := ((loopCodes impl_RunYard_code)[0]?).getD .skip
def impl_RunYard_ann : Ann := fun id => bif Nat.beq id 3000007 then some ⟨[((.reg 7), 3000000, 3), ((.cell 16 1), 3000001, 23), ((.cell 32 1), 3000002, 23)], [2, 4, 7, 8], [16, 3000001, 32, 3000002, 3000000]⟩ else none
def impl_RunYard_Ls (n : Nat) : Nat → Option (LSpec T) := fun id => bif Nat.beq id 7 then some (impl_RunYard_7_sp n) else none
theorem impl_RunYard_7_le (n : Nat) : LoopEq (T := T) (Phi n 28) (impl_RunYard_Ls n) impl_RunYard_ann n impl_RunYard_7_c (impl_RunYard_7_sp n) := ⟨mkSpec_dec (fun y => rfl), fun c x => by kernel_rfl, fun K J c x => by kernel_rfl⟩
theorem impl_RunYard_tie (n : Nat) (y0 : SYard) (ops1 : List SYardOp) : evF (T := T) (Phi n 28) (impl_RunYard_Ls n) impl_RunYard_ann n Try.f30 (sg 30) [vA T 41 y0, vA T 54 ops1] impl_RunYard_dec = impl_RunYard n y0 ops1 := by kernel_rfl
theorem impl_RunYard_lo (n : Nat) : LoopsOk (T := T) (Phi n 28) (impl_RunYard_Ls n) impl_RunYard_ann n impl_RunYard_code := loopsOk_all (cs := [impl_RunYard_7_c]) (by kernel_rfl) ⟨⟨_, by kernel_rfl, impl_RunYard_7_le n⟩, trivial⟩
theorem impl_RunYard_ok (n : Nat) : EntOk Try.prog (ents n) (impl_RunYard_ent n) := by
  intro hs ar y hg h
  replace h : impl_RunYard_D n ar = some y := h
  unfold impl_RunYard_D at h
  replace h := ocons_some h
  obtain ⟨a0, r0, rfl, h⟩ := h
  replace h := ocons_some h
  obtain ⟨a1, r1, rfl, h⟩ := h
  replace h := onil_some h
  obtain ⟨rfl, h⟩ := h
  obtain ⟨y0, qh0, h⟩ := obind_some h
  obtain ⟨ops1, qh1, h⟩ := obind_some h
  rw [argV_eq ok qh0, argV_eq ok qh1]
  exact call_of (phiE_nat _ _) hs ok mixed Try.func30 (c := impl_RunYard_code) (by kernel_rfl) (impl_RunYard_lo n) (by kernel_rfl) (by kernel_rfl) (by kernel_rfl) impl_RunYard_de ((impl_RunYard_tie n y0 ops1).trans h)
noncomputable def laws_eqIntS_code : Code := match Try.f31.body with | some c => c | none => .skip
def laws_eqIntS_4_sv : List Sv := [.one (.arr 3), .one (.arr 3), .one (.int .i64)]
def laws_eqIntS_4_so : List So := []
def laws_eqIntS_4_emb (c : List Int × List Int) (x : Int) : EVs T laws_eqIntS_4_sv × EOs T laws_eqIntS_4_so := ((c.1, c.2, x, ()), ())
def laws_eqIntS_4_prj (y : EVs T laws_eqIntS_4_sv × EOs T laws_eqIntS_4_so) : (List Int × List Int) × Int := ((y.1.1, y.1.2.1), (y.1.2.2.1))
def laws_eqIntS_4_b (n : Nat) {R : Type} (K : Ex → Sm.St T → Option R) (c : List Int × List Int) (x : Int) (J : Int → Option R) : Option R :=
  laws_eqIntS_L4 n (K (.exit 0) (stOf (T := T) [] [] [] [] () ())) (fun (y0 : Bool) => K .ret (stOf (T := T) [4] [] [.one (.bool)] [] (y0, ()) ())) J c.1 c.2 x
def laws_eqIntS_4_sp (n : Nat) : LSpec T := mkSpec T ⟨[], [0, 1, 5], []⟩ laws_eqIntS_4_sv laws_eqIntS_4_so (List Int × List Int) (Int) laws_eqIntS_4_emb laws_eqIntS_4_prj (laws_eqIntS_4_b n)
noncomputable def laws_eqIntS_4_c : Code := ((loopCodes laws_eqIntS_code)[0]?).getD .skip
def laws_eqIntS_ann : Ann := fun id => bif Nat.beq id 3000004 then some ⟨[], [], []⟩ else bif Nat.beq id 2000004 then some ⟨[], [4], []⟩ else none
def laws_eqIntS_Ls (n : Nat) : Nat → Option (LSpec T) := fun id => bif Nat.beq id 4 then some (laws_eqIntS_4_sp n) else none
theorem laws_eqIntS_4_le (n : Nat) : LoopEq (T := T) (Phi n 29) (laws_eqIntS_Ls n) laws_eqIntS_ann n laws_eqIntS_4_c (laws_eqIntS_4_sp n) := ⟨mkSpec_dec (fun y => rfl), fun c x => by kernel_rfl, fun K J c x => by kernel_rfl⟩
theorem laws_eqIntS_tie (n : Nat) (a0 : List Int) (b1 : List Int) : evF (T := T) (Phi n 29) (laws_eqIntS_Ls n) laws_eqIntS_ann n Try.f31 (sg 31) [vA T 23 a0, vA T 23 b1] laws_eqIntS_dec = laws_eqIntS n a0 b1 := by kernel_rfl
theorem laws_eqIntS_lo (n : Nat) : LoopsOk (T := T) (Phi n 29) (laws_eqIntS_Ls n) laws_eqIntS_ann n laws_eqIntS_code := loopsOk_all (cs := [laws_eqIntS_4_c]) (by kernel_rfl) ⟨⟨_, by kernel_rfl, laws_eqIntS_4_le n⟩, trivial⟩
theorem laws_eqIntS_ok (n : Nat) : EntOk Try.prog (ents n) (laws_eqIntS_ent n) := by
  intro hs ar y hg h
  replace h : laws_eqIntS_D n ar = some y := h
  unfold laws_eqIntS_D at h
  replace h := ocons_some h
  obtain ⟨a0, r0, rfl, h⟩ := h
  replace h := ocons_some h
  obtain ⟨a1, r1, rfl, h⟩ := h
  replace h := onil_some h
  obtain ⟨rfl, h⟩ := h
  obtain ⟨a0, qh0, h⟩ := obind_some h
  obtain ⟨b1, qh1, h⟩ := obind_some h
  rw [argV_eq ok qh0, argV_eq ok qh1]
  exact call_of (phiE_nat _ _) hs ok mixed Try.func31 (c := laws_eqIntS_code) (by kernel_rfl) (laws_eqIntS_lo n) (by kernel_rfl) (by kernel_rfl) (by kernel_rfl) laws_eqIntS_de ((laws_eqIntS_tie n a0 b1).trans h)
noncomputable def laws_eqIntSS_code : Code := match Try.f106.body with | some c => c | none => .skip
def laws_eqIntSS_4_sv : List Sv := [.one (.arr 23), .one (.arr 23), .one (.int .i64)]
def laws_eqIntSS_4_so : List So := []
def laws_eqIntSS_4_emb (c : List (List Int) × List (List Int)) (x : Int) : EVs T laws_eqIntSS_4_sv × EOs T laws_eqIntSS_4_so := ((c.1, c.2, x, ()), ())
def laws_eqIntSS_4_prj (y : EVs T laws_eqIntSS_4_sv × EOs T laws_eqIntSS_4_so) : (List (List Int) × List (List Int)) × Int := ((y.1.1, y.1.2.1), (y.1.2.2.1))
def laws_eqIntSS_4_b (n : Nat) {R : Type} (K : Ex → Sm.St T → Option R) (c : List (List Int) × List (List Int)) (x : Int) (J : Int → Option R) : Option R :=
  laws_eqIntSS_L4 n (K (.exit 0) (stOf (T := T) [] [] [] [] () ())) (fun (y0 : Bool) => K .ret (stOf (T := T) [4] [] [.one (.bool)] [] (y0, ()) ())) J c.1 c.2 x
def laws_eqIntSS_4_sp (n : Nat) : LSpec T := mkSpec T ⟨[], [0, 1, 5], []⟩ laws_eqIntSS_4_sv laws_eqIntSS_4_so (List (List Int) × List (List Int)) (Int) laws_eqIntSS_4_emb laws_eqIntSS_4_prj (laws_eqIntSS_4_b n)
noncomputable def laws_eqIntSS_4_c : Code := ((loopCodes laws_eqIntSS_code)[0]?).getD .skip
def laws_eqIntSS_ann : Ann := fun id => bif Nat.beq id 3000004 then some ⟨[], [], []⟩ else bif Nat.beq id 2000004 then some ⟨[], [4], []⟩ else none
def laws_eqIntSS_Ls (n : Nat) : Nat → Option (LSpec T) := fun id => bif Nat.beq id 4 then some (laws_eqIntSS_4_sp n) else none
theorem laws_eqIntSS_4_le (n : Nat) : LoopEq (T := T) (Phi n 30) (laws_eqIntSS_Ls n) laws_eqIntSS_ann n laws_eqIntSS_4_c (laws_eqIntSS_4_sp n) := ⟨mkSpec_dec (fun y => rfl), fun c x => by kernel_rfl, fun K J c x => by kernel_rfl⟩
theorem laws_eqIntSS_tie (n : Nat) (a0 : List (List Int)) (b1 : List (List Int)) : evF (T := T) (Phi n 30) (laws_eqIntSS_Ls n) laws_eqIntSS_ann n Try.f106 (sg 106) [vA T 35 a0, vA T 35 b1] laws_eqIntSS_dec = laws_eqIntSS n a0 b1 := by kernel_rfl
theorem laws_eqIntSS_lo (n : Nat) : LoopsOk (T := T) (Phi n 30) (laws_eqIntSS_Ls n) laws_eqIntSS_ann n laws_eqIntSS_code := loopsOk_all (cs := [laws_eqIntSS_4_c]) (by kernel_rfl) ⟨⟨_, by kernel_rfl, laws_eqIntSS_4_le n⟩, trivial⟩
theorem laws_eqIntSS_ok (n : Nat) : EntOk Try.prog (ents n) (laws_eqIntSS_ent n) := by
  intro hs ar y hg h
  replace h : laws_eqIntSS_D n ar = some y := h
  unfold laws_eqIntSS_D at h
  replace h := ocons_some h
  obtain ⟨a0, r0, rfl, h⟩ := h
  replace h := ocons_some h
  obtain ⟨a1, r1, rfl, h⟩ := h
  replace h := onil_some h
  obtain ⟨rfl, h⟩ := h
  obtain ⟨a0, qh0, h⟩ := obind_some h
  obtain ⟨b1, qh1, h⟩ := obind_some h
  rw [argV_eq ok qh0, argV_eq ok qh1]
  exact call_of (phiE_nat _ _) hs ok mixed Try.func106 (c := laws_eqIntSS_code) (by kernel_rfl) (laws_eqIntSS_lo n) (by kernel_rfl) (by kernel_rfl) (by kernel_rfl) laws_eqIntSS_de ((laws_eqIntSS_tie n a0 b1).trans h)
noncomputable def laws_eqYard_code : Code := match Try.f24.body with | some c => c | none => .skip
def laws_eqYard_ann : Ann := fun id => none
def laws_eqYard_Ls (n : Nat) : Nat → Option (LSpec T) := fun id => none
theorem laws_eqYard_tie (n : Nat) (a0 : SYard) (b1 : SYard) : evF (T := T) (Phi n 31) (laws_eqYard_Ls n) laws_eqYard_ann n Try.f24 (sg 24) [vA T 41 a0, vA T 41 b1] laws_eqYard_dec = laws_eqYard n a0 b1 := by kernel_rfl
theorem laws_eqYard_lo (n : Nat) : LoopsOk (T := T) (Phi n 31) (laws_eqYard_Ls n) laws_eqYard_ann n laws_eqYard_code := loopsOk_all (cs := []) (by kernel_rfl) trivial
theorem laws_eqYard_ok (n : Nat) : EntOk Try.prog (ents n) (laws_eqYard_ent n) := by
  intro hs ar y hg h
  replace h : laws_eqYard_D n ar = some y := h
  unfold laws_eqYard_D at h
  replace h := ocons_some h
  obtain ⟨a0, r0, rfl, h⟩ := h
  replace h := ocons_some h
  obtain ⟨a1, r1, rfl, h⟩ := h
  replace h := onil_some h
  obtain ⟨rfl, h⟩ := h
  obtain ⟨a0, qh0, h⟩ := obind_some h
  obtain ⟨b1, qh1, h⟩ := obind_some h
  rw [argV_eq ok qh0, argV_eq ok qh1]
  exact call_of (phiE_nat _ _) hs ok mixed Try.func24 (c := laws_eqYard_code) (by kernel_rfl) (laws_eqYard_lo n) (by kernel_rfl) (by kernel_rfl) (by kernel_rfl) laws_eqYard_de ((laws_eqYard_tie n a0 b1).trans h)
noncomputable def laws_eqYardOp_code : Code := match Try.f109.body with | some c => c | none => .skip
def laws_eqYardOp_ann : Ann := fun id => none
def laws_eqYardOp_Ls (n : Nat) : Nat → Option (LSpec T) := fun id => none
theorem laws_eqYardOp_tie (n : Nat) (a0 : SYardOp) (b1 : SYardOp) : evF (T := T) (Phi n 32) (laws_eqYardOp_Ls n) laws_eqYardOp_ann n Try.f109 (sg 109) [vA T 45 a0, vA T 45 b1] laws_eqYardOp_dec = laws_eqYardOp n a0 b1 := by kernel_rfl
theorem laws_eqYardOp_lo (n : Nat) : LoopsOk (T := T) (Phi n 32) (laws_eqYardOp_Ls n) laws_eqYardOp_ann n laws_eqYardOp_code := loopsOk_all (cs := []) (by kernel_rfl) trivial
theorem laws_eqYardOp_ok (n : Nat) : EntOk Try.prog (ents n) (laws_eqYardOp_ent n) := by
  intro hs ar y hg h
  replace h : laws_eqYardOp_D n ar = some y := h
  unfold laws_eqYardOp_D at h
  replace h := ocons_some h
  obtain ⟨a0, r0, rfl, h⟩ := h
  replace h := ocons_some h
  obtain ⟨a1, r1, rfl, h⟩ := h
  replace h := onil_some h
  obtain ⟨rfl, h⟩ := h
  obtain ⟨a0, qh0, h⟩ := obind_some h
  obtain ⟨b1, qh1, h⟩ := obind_some h
  rw [argV_eq ok qh0, argV_eq ok qh1]
  exact call_of (phiE_nat _ _) hs ok mixed Try.func109 (c := laws_eqYardOp_code) (by kernel_rfl) (laws_eqYardOp_lo n) (by kernel_rfl) (by kernel_rfl) (by kernel_rfl) laws_eqYardOp_de ((laws_eqYardOp_tie n a0 b1).trans h)
noncomputable def laws_eqYardOpS_code : Code := match Try.f32.body with | some c => c | none => .skip
def laws_eqYardOpS_4_sv : List Sv := [.one (.arr 45), .one (.arr 45), .one (.int .i64)]
def laws_eqYardOpS_4_so : List So := []
def laws_eqYardOpS_4_emb (c : List SYardOp × List SYardOp) (x : Int) : EVs T laws_eqYardOpS_4_sv × EOs T laws_eqYardOpS_4_so := ((c.1, c.2, x, ()), ())
def laws_eqYardOpS_4_prj (y : EVs T laws_eqYardOpS_4_sv × EOs T laws_eqYardOpS_4_so) : (List SYardOp × List SYardOp) × Int := ((y.1.1, y.1.2.1), (y.1.2.2.1))
def laws_eqYardOpS_4_b (n : Nat) {R : Type} (K : Ex → Sm.St T → Option R) (c : List SYardOp × List SYardOp) (x : Int) (J : Int → Option R) : Option R :=
  laws_eqYardOpS_L4 n (K (.exit 0) (stOf (T := T) [] [] [] [] () ())) (fun (y0 : Bool) => K .ret (stOf (T := T) [4] [] [.one (.bool)] [] (y0, ()) ())) J c.1 c.2 x
def laws_eqYardOpS_4_sp (n : Nat) : LSpec T := mkSpec T ⟨[], [0, 1, 5], []⟩ laws_eqYardOpS_4_sv laws_eqYardOpS_4_so (List SYardOp × List SYardOp) (Int) laws_eqYardOpS_4_emb laws_eqYardOpS_4_prj (laws_eqYardOpS_4_b n)
noncomputable def laws_eqYardOpS_4_c : Code := ((loopCodes laws_eqYardOpS_code)[0]?).getD .skip
def laws_eqYardOpS_ann : Ann := fun id => bif Nat.beq id 3000004 then some ⟨[], [], []⟩ else bif Nat.beq id 2000004 then some ⟨[], [4], []⟩ else none
def laws_eqYardOpS_Ls (n : Nat) : Nat → Option (LSpec T) := fun id => bif Nat.beq id 4 then some (laws_eqYardOpS_4_sp n) else none
theorem laws_eqYardOpS_4_le (n : Nat) : LoopEq (T := T) (Phi n 33) (laws_eqYardOpS_Ls n) laws_eqYardOpS_ann n laws_eqYardOpS_4_c (laws_eqYardOpS_4_sp n) := ⟨mkSpec_dec (fun y => rfl), fun c x => by kernel_rfl, fun K J c x => by kernel_rfl⟩
theorem laws_eqYardOpS_tie (n : Nat) (a0 : List SYardOp) (b1 : List SYardOp) : evF (T := T) (Phi n 33) (laws_eqYardOpS_Ls n) laws_eqYardOpS_ann n Try.f32 (sg 32) [vA T 54 a0, vA T 54 b1] laws_eqYardOpS_dec = laws_eqYardOpS n a0 b1 := by kernel_rfl
theorem laws_eqYardOpS_lo (n : Nat) : LoopsOk (T := T) (Phi n 33) (laws_eqYardOpS_Ls n) laws_eqYardOpS_ann n laws_eqYardOpS_code := loopsOk_all (cs := [laws_eqYardOpS_4_c]) (by kernel_rfl) ⟨⟨_, by kernel_rfl, laws_eqYardOpS_4_le n⟩, trivial⟩
theorem laws_eqYardOpS_ok (n : Nat) : EntOk Try.prog (ents n) (laws_eqYardOpS_ent n) := by
  intro hs ar y hg h
  replace h : laws_eqYardOpS_D n ar = some y := h
  unfold laws_eqYardOpS_D at h
  replace h := ocons_some h
  obtain ⟨a0, r0, rfl, h⟩ := h
  replace h := ocons_some h
  obtain ⟨a1, r1, rfl, h⟩ := h
  replace h := onil_some h
  obtain ⟨rfl, h⟩ := h
  obtain ⟨a0, qh0, h⟩ := obind_some h
  obtain ⟨b1, qh1, h⟩ := obind_some h
  rw [argV_eq ok qh0, argV_eq ok qh1]
  exact call_of (phiE_nat _ _) hs ok mixed Try.func32 (c := laws_eqYardOpS_code) (by kernel_rfl) (laws_eqYardOpS_lo n) (by kernel_rfl) (by kernel_rfl) (by kernel_rfl) laws_eqYardOpS_de ((laws_eqYardOpS_tie n a0 b1).trans h)
noncomputable def laws_markIntS_code : Code := match Try.f34.body with | some c => c | none => .skip
def laws_markIntS_2_sv : List Sv := [.one (.own 4503599627370496 3 false), .one (.int .i64), .one (.int .i64)]
def laws_markIntS_2_so : List So := [.arr 3 true]
def laws_markIntS_2_emb (c : Unit) (x : Int × Int × List Int) : EVs T laws_markIntS_2_sv × EOs T laws_markIntS_2_so := (((), x.1, x.2.1, ()), (x.2.2, ()))
def laws_markIntS_2_prj (y : EVs T laws_markIntS_2_sv × EOs T laws_markIntS_2_so) : Unit × (Int × Int × List Int) := ((), (y.1.2.1, y.1.2.2.1, y.2.1))
def laws_markIntS_2_b (n : Nat) {R : Type} (K : Ex → Sm.St T → Option R) (c : Unit) (x : Int × Int × List Int) (J : (Int × Int × List Int) → Option R) : Option R :=
  laws_markIntS_L2 n (fun (y0 : Int) (y1 : List Int) => K (.exit 0) (stOf (T := T) [1] [4503599627370496] [.one (.int .i64)] [.arr 3 true] (y0, ()) (y1, ()))) (fun z0 z1 z2 => J (z0, z1, z2)) x.1 x.2.1 x.2.2
def laws_markIntS_2_sp (n : Nat) : LSpec T := mkSpec T ⟨[], [0, 1, 5], [4503599627370496]⟩ laws_markIntS_2_sv laws_markIntS_2_so (Unit) (Int × Int × List Int) laws_markIntS_2_emb laws_markIntS_2_prj (laws_markIntS_2_b n)
noncomputable def laws_markIntS_2_c : Code := ((loopCodes laws_markIntS_code)[0]?).getD .skip
def laws_markIntS_ann : Ann := fun id => bif Nat.beq id 3000002 then some ⟨[], [1], [4503599627370496]⟩ else none
def laws_markIntS_Ls (n : Nat) : Nat → Option (LSpec T) := fun id => bif Nat.beq id 2 then some (laws_markIntS_2_sp n) else none
theorem laws_markIntS_2_le (n : Nat) : LoopEq (T := T) (Phi n 34) (laws_markIntS_Ls n) laws_markIntS_ann n laws_markIntS_2_c (laws_markIntS_2_sp n) := ⟨mkSpec_dec (fun y => rfl), fun c x => by kernel_rfl, fun K J c x => by kernel_rfl⟩
theorem laws_markIntS_tie (n : Nat) (a0 : List Int) (k1 : Int) : evF (T := T) (Phi n 34) (laws_markIntS_Ls n) laws_markIntS_ann n Try.f34 (sg 34) [vA T 23 a0, vA T 3 k1] laws_markIntS_dec = laws_markIntS n a0 k1 := by kernel_rfl
theorem laws_markIntS_lo (n : Nat) : LoopsOk (T := T) (Phi n 34) (laws_markIntS_Ls n) laws_markIntS_ann n laws_markIntS_code := loopsOk_all (cs := [laws_markIntS_2_c]) (by kernel_rfl) ⟨⟨_, by kernel_rfl, laws_markIntS_2_le n⟩, trivial⟩
theorem laws_markIntS_ok (n : Nat) : EntOk Try.prog (ents n) (laws_markIntS_ent n) := by
  intro hs ar y hg h
  replace h : laws_markIntS_D n ar = some y := h
  unfold laws_markIntS_D at h
  replace h := ocons_some h
  obtain ⟨a0, r0, rfl, h⟩ := h
  replace h := ocons_some h
  obtain ⟨a1, r1, rfl, h⟩ := h
  replace h := onil_some h
  obtain ⟨rfl, h⟩ := h
  obtain ⟨a0, qh0, h⟩ := obind_some h
  obtain ⟨k1, qh1, h⟩ := obind_some h
  rw [argV_eq ok qh0, argV_eq ok qh1]
  exact call_of (phiE_nat _ _) hs ok mixed Try.func34 (c := laws_markIntS_code) (by kernel_rfl) (laws_markIntS_lo n) (by kernel_rfl) (by kernel_rfl) (by kernel_rfl) laws_markIntS_de ((laws_markIntS_tie n a0 k1).trans h)
noncomputable def laws_markIntSS_code : Code := match Try.f107.body with | some c => c | none => .skip
def laws_markIntSS_2_sv : List Sv := [.one (.own 4503599627370496 23 false), .one (.int .i64), .one (.int .i64)]
def laws_markIntSS_2_so : List So := [.arr 23 true]
def laws_markIntSS_2_emb (c : Unit) (x : Int × Int × List (List Int)) : EVs T laws_markIntSS_2_sv × EOs T laws_markIntSS_2_so := (((), x.1, x.2.1, ()), (x.2.2, ()))
def laws_markIntSS_2_prj (y : EVs T laws_markIntSS_2_sv × EOs T laws_markIntSS_2_so) : Unit × (Int × Int × List (List Int)) := ((), (y.1.2.1, y.1.2.2.1, y.2.1))
def laws_markIntSS_2_b (n : Nat) {R : Type} (K : Ex → Sm.St T → Option R) (c : Unit) (x : Int × Int × List (List Int)) (J : (Int × Int × List (List Int)) → Option R) : Option R :=
  laws_markIntSS_L2 n (fun (y0 : Int) (y1 : List (List Int)) => K (.exit 0) (stOf (T := T) [1] [4503599627370496] [.one (.int .i64)] [.arr 23 true] (y0, ()) (y1, ()))) (fun z0 z1 z2 => J (z0, z1, z2)) x.1 x.2.1 x.2.2
def laws_markIntSS_2_sp (n : Nat) : LSpec T := mkSpec T ⟨[], [0, 1, 5], [4503599627370496]⟩ laws_markIntSS_2_sv laws_markIntSS_2_so (Unit) (Int × Int × List (List Int)) laws_markIntSS_2_emb laws_markIntSS_2_prj (laws_markIntSS_2_b n)
noncomputable def laws_markIntSS_2_c : Code := ((loopCodes laws_markIntSS_code)[0]?).getD .skip
def laws_markIntSS_ann : Ann := fun id => bif Nat.beq id 3000002 then some ⟨[], [1], [4503599627370496]⟩ else none
def laws_markIntSS_Ls (n : Nat) : Nat → Option (LSpec T) := fun id => bif Nat.beq id 2 then some (laws_markIntSS_2_sp n) else none
theorem laws_markIntSS_2_le (n : Nat) : LoopEq (T := T) (Phi n 35) (laws_markIntSS_Ls n) laws_markIntSS_ann n laws_markIntSS_2_c (laws_markIntSS_2_sp n) := ⟨mkSpec_dec (fun y => rfl), fun c x => by kernel_rfl, fun K J c x => by kernel_rfl⟩
theorem laws_markIntSS_tie (n : Nat) (a0 : List (List Int)) (k1 : Int) : evF (T := T) (Phi n 35) (laws_markIntSS_Ls n) laws_markIntSS_ann n Try.f107 (sg 107) [vA T 35 a0, vA T 3 k1] laws_markIntSS_dec = laws_markIntSS n a0 k1 := by kernel_rfl
theorem laws_markIntSS_lo (n : Nat) : LoopsOk (T := T) (Phi n 35) (laws_markIntSS_Ls n) laws_markIntSS_ann n laws_markIntSS_code := loopsOk_all (cs := [laws_markIntSS_2_c]) (by kernel_rfl) ⟨⟨_, by kernel_rfl, laws_markIntSS_2_le n⟩, trivial⟩
theorem laws_markIntSS_ok (n : Nat) : EntOk Try.prog (ents n) (laws_markIntSS_ent n) := by
  intro hs ar y hg h
  replace h : laws_markIntSS_D n ar = some y := h
  unfold laws_markIntSS_D at h
  replace h := ocons_some h
  obtain ⟨a0, r0, rfl, h⟩ := h
  replace h := ocons_some h
  obtain ⟨a1, r1, rfl, h⟩ := h
  replace h := onil_some h
  obtain ⟨rfl, h⟩ := h
  obtain ⟨a0, qh0, h⟩ := obind_some h
  obtain ⟨k1, qh1, h⟩ := obind_some h
  rw [argV_eq ok qh0, argV_eq ok qh1]
  exact call_of (phiE_nat _ _) hs ok mixed Try.func107 (c := laws_markIntSS_code) (by kernel_rfl) (laws_markIntSS_lo n) (by kernel_rfl) (by kernel_rfl) (by kernel_rfl) laws_markIntSS_de ((laws_markIntSS_tie n a0 k1).trans h)
noncomputable def laws_markYard_code : Code := match Try.f25.body with | some c => c | none => .skip
def laws_markYard_ann : Ann := fun id => none
def laws_markYard_Ls (n : Nat) : Nat → Option (LSpec T) := fun id => none
theorem laws_markYard_tie (n : Nat) (a0 : SYard) (k1 : Int) : evF (T := T) (Phi n 36) (laws_markYard_Ls n) laws_markYard_ann n Try.f25 (sg 25) [vA T 41 a0, vA T 3 k1] laws_markYard_dec = laws_markYard n a0 k1 := by kernel_rfl
theorem laws_markYard_lo (n : Nat) : LoopsOk (T := T) (Phi n 36) (laws_markYard_Ls n) laws_markYard_ann n laws_markYard_code := loopsOk_all (cs := []) (by kernel_rfl) trivial
theorem laws_markYard_ok (n : Nat) : EntOk Try.prog (ents n) (laws_markYard_ent n) := by
  intro hs ar y hg h
  replace h : laws_markYard_D n ar = some y := h
  unfold laws_markYard_D at h
  replace h := ocons_some h
  obtain ⟨a0, r0, rfl, h⟩ := h
  replace h := ocons_some h
  obtain ⟨a1, r1, rfl, h⟩ := h
  replace h := onil_some h
  obtain ⟨rfl, h⟩ := h
  obtain ⟨a0, qh0, h⟩ := obind_some h
  obtain ⟨k1, qh1, h⟩ := obind_some h
  rw [argV_eq ok qh0, argV_eq ok qh1]
  exact call_of (phiE_nat _ _) hs ok mixed Try.func25 (c := laws_markYard_code) (by kernel_rfl) (laws_markYard_lo n) (by kernel_rfl) (by kernel_rfl) (by kernel_rfl) laws_markYard_de ((laws_markYard_tie n a0 k1).trans h)
noncomputable def laws_markYardOpS_code : Code := match Try.f33.body with | some c => c | none => .skip
def laws_markYardOpS_2_sv : List Sv := [.one (.own 4503599627370496 45 false), .one (.int .i64), .one (.int .i64)]
def laws_markYardOpS_2_so : List So := [.arr 45 true]
def laws_markYardOpS_2_emb (c : Unit) (x : Int × Int × List SYardOp) : EVs T laws_markYardOpS_2_sv × EOs T laws_markYardOpS_2_so := (((), x.1, x.2.1, ()), (x.2.2, ()))
def laws_markYardOpS_2_prj (y : EVs T laws_markYardOpS_2_sv × EOs T laws_markYardOpS_2_so) : Unit × (Int × Int × List SYardOp) := ((), (y.1.2.1, y.1.2.2.1, y.2.1))
def laws_markYardOpS_2_b (n : Nat) {R : Type} (K : Ex → Sm.St T → Option R) (c : Unit) (x : Int × Int × List SYardOp) (J : (Int × Int × List SYardOp) → Option R) : Option R :=
  laws_markYardOpS_L2 n (fun (y0 : Int) (y1 : List SYardOp) => K (.exit 0) (stOf (T := T) [1] [4503599627370496] [.one (.int .i64)] [.arr 45 true] (y0, ()) (y1, ()))) (fun z0 z1 z2 => J (z0, z1, z2)) x.1 x.2.1 x.2.2
def laws_markYardOpS_2_sp (n : Nat) : LSpec T := mkSpec T ⟨[], [0, 1, 5], [4503599627370496]⟩ laws_markYardOpS_2_sv laws_markYardOpS_2_so (Unit) (Int × Int × List SYardOp) laws_markYardOpS_2_emb laws_markYardOpS_2_prj (laws_markYardOpS_2_b n)
noncomputable def laws_markYardOpS_2_c : Code := ((loopCodes laws_markYardOpS_code)[0]?).getD .skip
def laws_markYardOpS_ann : Ann := fun id => bif Nat.beq id 3000002 then some ⟨[], [1], [4503599627370496]⟩ else none
def laws_markYardOpS_Ls (n : Nat) : Nat → Option (LSpec T) := fun id => bif Nat.beq id 2 then some (laws_markYardOpS_2_sp n) else none
theorem laws_markYardOpS_2_le (n : Nat) : LoopEq (T := T) (Phi n 37) (laws_markYardOpS_Ls n) laws_markYardOpS_ann n laws_markYardOpS_2_c (laws_markYardOpS_2_sp n) := ⟨mkSpec_dec (fun y => rfl), fun c x => by kernel_rfl, fun K J c x => by kernel_rfl⟩
theorem laws_markYardOpS_tie (n : Nat) (a0 : List SYardOp) (k1 : Int) : evF (T := T) (Phi n 37) (laws_markYardOpS_Ls n) laws_markYardOpS_ann n Try.f33 (sg 33) [vA T 54 a0, vA T 3 k1] laws_markYardOpS_dec = laws_markYardOpS n a0 k1 := by kernel_rfl
theorem laws_markYardOpS_lo (n : Nat) : LoopsOk (T := T) (Phi n 37) (laws_markYardOpS_Ls n) laws_markYardOpS_ann n laws_markYardOpS_code := loopsOk_all (cs := [laws_markYardOpS_2_c]) (by kernel_rfl) ⟨⟨_, by kernel_rfl, laws_markYardOpS_2_le n⟩, trivial⟩
theorem laws_markYardOpS_ok (n : Nat) : EntOk Try.prog (ents n) (laws_markYardOpS_ent n) := by
  intro hs ar y hg h
  replace h : laws_markYardOpS_D n ar = some y := h
  unfold laws_markYardOpS_D at h
  replace h := ocons_some h
  obtain ⟨a0, r0, rfl, h⟩ := h
  replace h := ocons_some h
  obtain ⟨a1, r1, rfl, h⟩ := h
  replace h := onil_some h
  obtain ⟨rfl, h⟩ := h
  obtain ⟨a0, qh0, h⟩ := obind_some h
  obtain ⟨k1, qh1, h⟩ := obind_some h
  rw [argV_eq ok qh0, argV_eq ok qh1]
  exact call_of (phiE_nat _ _) hs ok mixed Try.func33 (c := laws_markYardOpS_code) (by kernel_rfl) (laws_markYardOpS_lo n) (by kernel_rfl) (by kernel_rfl) (by kernel_rfl) laws_markYardOpS_de ((laws_markYardOpS_tie n a0 k1).trans h)
noncomputable def laws_heldIntS_code : Code := match Try.f35.body with | some c => c | none => .skip
def laws_heldIntS_2_sv : List Sv := [.one (.arr 3), .one (.int .i64), .one (.int .i64)]
def laws_heldIntS_2_so : List So := []
def laws_heldIntS_2_emb (c : List Int) (x : Int × Int) : EVs T laws_heldIntS_2_sv × EOs T laws_heldIntS_2_so := ((c, x.1, x.2, ()), ())
def laws_heldIntS_2_prj (y : EVs T laws_heldIntS_2_sv × EOs T laws_heldIntS_2_so) : List Int × (Int × Int) := ((y.1.1), (y.1.2.1, y.1.2.2.1))
def laws_heldIntS_2_b (n : Nat) {R : Type} (K : Ex → Sm.St T → Option R) (c : List Int) (x : Int × Int) (J : (Int × Int) → Option R) : Option R :=
  laws_heldIntS_L2 n (fun (y0 : Int) => K (.exit 0) (stOf (T := T) [1] [] [.one (.int .i64)] [] (y0, ()) ())) (fun (y0 : Int) => K .ret (stOf (T := T) [4] [] [.one (.int .i64)] [] (y0, ()) ())) (fun z0 z1 => J (z0, z1)) c x.1 x.2
def laws_heldIntS_2_sp (n : Nat) : LSpec T := mkSpec T ⟨[], [0, 1, 5], []⟩ laws_heldIntS_2_sv laws_heldIntS_2_so (List Int) (Int × Int) laws_heldIntS_2_emb laws_heldIntS_2_prj (laws_heldIntS_2_b n)
noncomputable def laws_heldIntS_2_c : Code := ((loopCodes laws_heldIntS_code)[0]?).getD .skip
def laws_heldIntS_ann : Ann := fun id => bif Nat.beq id 3000002 then some ⟨[], [1], []⟩ else bif Nat.beq id 2000002 then some ⟨[], [4], []⟩ else none
def laws_heldIntS_Ls (n : Nat) : Nat → Option (LSpec T) := fun id => bif Nat.beq id 2 then some (laws_heldIntS_2_sp n) else none
theorem laws_heldIntS_2_le (n : Nat) : LoopEq (T := T) (Phi n 38) (laws_heldIntS_Ls n) laws_heldIntS_ann n laws_heldIntS_2_c (laws_heldIntS_2_sp n) := ⟨mkSpec_dec (fun y => rfl), fun c x => by kernel_rfl, fun K J c x => by kernel_rfl⟩
theorem laws_heldIntS_tie (n : Nat) (a0 : List Int) (k1 : Int) : evF (T := T) (Phi n 38) (laws_heldIntS_Ls n) laws_heldIntS_ann n Try.f35 (sg 35) [vA T 23 a0, vA T 3 k1] laws_heldIntS_dec = laws_heldIntS n a0 k1 := by kernel_rfl
theorem laws_heldIntS_lo (n : Nat) : LoopsOk (T := T) (Phi n 38) (laws_heldIntS_Ls n) laws_heldIntS_ann n laws_heldIntS_code := loopsOk_all (cs := [laws_heldIntS_2_c]) (by kernel_rfl) ⟨⟨_, by kernel_rfl, laws_heldIntS_2_le n⟩, trivial⟩
theorem laws_heldIntS_ok (n : Nat) : EntOk Try.prog (ents n) (laws_heldIntS_ent n) := by
  intro hs ar y hg h
  replace h : laws_heldIntS_D n ar = some y := h
  unfold laws_heldIntS_D at h
  replace h := ocons_some h
  obtain ⟨a0, r0, rfl, h⟩ := h
  replace h := ocons_some h
  obtain ⟨a1, r1, rfl, h⟩ := h
  replace h := onil_some h
  obtain ⟨rfl, h⟩ := h
  obtain ⟨a0, qh0, h⟩ := obind_some h
  obtain ⟨k1, qh1, h⟩ := obind_some h
  rw [argV_eq ok qh0, argV_eq ok qh1]
  exact call_of (phiE_nat _ _) hs ok mixed Try.func35 (c := laws_heldIntS_code) (by kernel_rfl) (laws_heldIntS_lo n) (by kernel_rfl) (by kernel_rfl) (by kernel_rfl) laws_heldIntS_de ((laws_heldIntS_tie n a0 k1).trans h)
noncomputable def laws_heldIntSS_code : Code := match Try.f108.body with | some c => c | none => .skip
def laws_heldIntSS_2_sv : List Sv := [.one (.arr 23), .one (.int .i64), .one (.int .i64)]
def laws_heldIntSS_2_so : List So := []
def laws_heldIntSS_2_emb (c : List (List Int)) (x : Int × Int) : EVs T laws_heldIntSS_2_sv × EOs T laws_heldIntSS_2_so := ((c, x.1, x.2, ()), ())
def laws_heldIntSS_2_prj (y : EVs T laws_heldIntSS_2_sv × EOs T laws_heldIntSS_2_so) : List (List Int) × (Int × Int) := ((y.1.1), (y.1.2.1, y.1.2.2.1))
def laws_heldIntSS_2_b (n : Nat) {R : Type} (K : Ex → Sm.St T → Option R) (c : List (List Int)) (x : Int × Int) (J : (Int × Int) → Option R) : Option R :=
  laws_heldIntSS_L2 n (fun (y0 : Int) => K (.exit 0) (stOf (T := T) [1] [] [.one (.int .i64)] [] (y0, ()) ())) (fun (y0 : Int) => K .ret (stOf (T := T) [4] [] [.one (.int .i64)] [] (y0, ()) ())) (fun z0 z1 => J (z0, z1)) c x.1 x.2
def laws_heldIntSS_2_sp (n : Nat) : LSpec T := mkSpec T ⟨[], [0, 1, 5], []⟩ laws_heldIntSS_2_sv laws_heldIntSS_2_so (List (List Int)) (Int × Int) laws_heldIntSS_2_emb laws_heldIntSS_2_prj (laws_heldIntSS_2_b n)
noncomputable def laws_heldIntSS_2_c : Code := ((loopCodes laws_heldIntSS_code)[0]?).getD .skip
def laws_heldIntSS_ann : Ann := fun id => bif Nat.beq id 3000002 then some ⟨[], [1], []⟩ else bif Nat.beq id 2000002 then some ⟨[], [4], []⟩ else none
def laws_heldIntSS_Ls (n : Nat) : Nat → Option (LSpec T) := fun id => bif Nat.beq id 2 then some (laws_heldIntSS_2_sp n) else none
theorem laws_heldIntSS_2_le (n : Nat) : LoopEq (T := T) (Phi n 39) (laws_heldIntSS_Ls n) laws_heldIntSS_ann n laws_heldIntSS_2_c (laws_heldIntSS_2_sp n) := ⟨mkSpec_dec (fun y => rfl), fun c x => by kernel_rfl, fun K J c x => by kernel_rfl⟩
theorem laws_heldIntSS_tie (n : Nat) (a0 : List (List Int)) (k1 : Int) : evF (T := T) (Phi n 39) (laws_heldIntSS_Ls n) laws_heldIntSS_ann n Try.f108 (sg 108) [vA T 35 a0, vA T 3 k1] laws_heldIntSS_dec = laws_heldIntSS n a0 k1 := by kernel_rfl
theorem laws_heldIntSS_lo (n : Nat) : LoopsOk (T := T) (Phi n 39) (laws_heldIntSS_Ls n) laws_heldIntSS_ann n laws_heldIntSS_code := loopsOk_all (cs := [laws_heldIntSS_2_c]) (by kernel_rfl) ⟨⟨_, by kernel_rfl, laws_heldIntSS_2_le n⟩, trivial⟩
theorem laws_heldIntSS_ok (n : Nat) : EntOk Try.prog (ents n) (laws_heldIntSS_ent n) := by
  intro hs ar y hg h
  replace h : laws_heldIntSS_D n ar = some y := h
  unfold laws_heldIntSS_D at h
  replace h := ocons_some h
  obtain ⟨a0, r0, rfl, h⟩ := h
  replace h := ocons_some h
  obtain ⟨a1, r1, rfl, h⟩ := h
  replace h := onil_some h
  obtain ⟨rfl, h⟩ := h
  obtain ⟨a0, qh0, h⟩ := obind_some h
  obtain ⟨k1, qh1, h⟩ := obind_some h
  rw [argV_eq ok qh0, argV_eq ok qh1]
  exact call_of (phiE_nat _ _) hs ok mixed Try.func108 (c := laws_heldIntSS_code) (by kernel_rfl) (laws_heldIntSS_lo n) (by kernel_rfl) (by kernel_rfl) (by kernel_rfl) laws_heldIntSS_de ((laws_heldIntSS_tie n a0 k1).trans h)
noncomputable def laws_heldYard_code : Code := match Try.f26.body with | some c => c | none => .skip
def laws_heldYard_ann : Ann := fun id => none
def laws_heldYard_Ls (n : Nat) : Nat → Option (LSpec T) := fun id => none
theorem laws_heldYard_tie (n : Nat) (a0 : SYard) (k1 : Int) : evF (T := T) (Phi n 40) (laws_heldYard_Ls n) laws_heldYard_ann n Try.f26 (sg 26) [vA T 41 a0, vA T 3 k1] laws_heldYard_dec = laws_heldYard n a0 k1 := by kernel_rfl
theorem laws_heldYard_lo (n : Nat) : LoopsOk (T := T) (Phi n 40) (laws_heldYard_Ls n) laws_heldYard_ann n laws_heldYard_code := loopsOk_all (cs := []) (by kernel_rfl) trivial
theorem laws_heldYard_ok (n : Nat) : EntOk Try.prog (ents n) (laws_heldYard_ent n) := by
  intro hs ar y hg h
  replace h : laws_heldYard_D n ar = some y := h
  unfold laws_heldYard_D at h
  replace h := ocons_some h
  obtain ⟨a0, r0, rfl, h⟩ := h
  replace h := ocons_some h
  obtain ⟨a1, r1, rfl, h⟩ := h
  replace h := onil_some h
  obtain ⟨rfl, h⟩ := h
  obtain ⟨a0, qh0, h⟩ := obind_some h
  obtain ⟨k1, qh1, h⟩ := obind_some h
  rw [argV_eq ok qh0, argV_eq ok qh1]
  exact call_of (phiE_nat _ _) hs ok mixed Try.func26 (c := laws_heldYard_code) (by kernel_rfl) (laws_heldYard_lo n) (by kernel_rfl) (by kernel_rfl) (by kernel_rfl) laws_heldYard_de ((laws_heldYard_tie n a0 k1).trans h)
noncomputable def laws_FnExactRunYard_code : Code := match Try.f5.body with | some c => c | none => .skip
def laws_FnExactRunYard_ann : Ann := fun id => none
def laws_FnExactRunYard_Ls (n : Nat) : Nat → Option (LSpec T) := fun id => none
theorem laws_FnExactRunYard_tie (n : Nat) (aY0 : SYard) (aOps1 : List SYardOp) : evF (T := T) (Phi n 41) (laws_FnExactRunYard_Ls n) laws_FnExactRunYard_ann n Try.f5 (sg 5) [vA T 37 aY0, vA T 50 aOps1] laws_FnExactRunYard_dec = laws_FnExactRunYard n aY0 aOps1 := by kernel_rfl
theorem laws_FnExactRunYard_lo (n : Nat) : LoopsOk (T := T) (Phi n 41) (laws_FnExactRunYard_Ls n) laws_FnExactRunYard_ann n laws_FnExactRunYard_code := loopsOk_all (cs := []) (by kernel_rfl) trivial
theorem laws_FnExactRunYard_ok (n : Nat) : EntOk Try.prog (ents n) (laws_FnExactRunYard_ent n) := by
  intro hs ar y hg h
  replace h : laws_FnExactRunYard_D n ar = some y := h
  unfold laws_FnExactRunYard_D at h
  replace h := ocons_some h
  obtain ⟨a0, r0, rfl, h⟩ := h
  replace h := ocons_some h
  obtain ⟨a1, r1, rfl, h⟩ := h
  replace h := onil_some h
  obtain ⟨rfl, h⟩ := h
  obtain ⟨aY0, qh0, h⟩ := obind_some h
  obtain ⟨aOps1, qh1, h⟩ := obind_some h
  rw [argV_eq ok qh0, argV_eq ok qh1]
  exact call_of (phiE_nat _ _) hs ok mixed Try.func5 (c := laws_FnExactRunYard_code) (by kernel_rfl) (laws_FnExactRunYard_lo n) (by kernel_rfl) (by kernel_rfl) (by kernel_rfl) laws_FnExactRunYard_de ((laws_FnExactRunYard_tie n aY0 aOps1).trans h)
theorem entsOk (n : Nat) : EntsOk Try.prog (ents n) (ents n) := ⟨laws_szIntS_ok n, laws_szIntSS_ok n, laws_szYard_ok n, laws_szYardOpS_ok n, laws_toIntS_ok n, laws_toIntSS_ok n, laws_toYard_ok n, laws_toYardOp_ok n, laws_toYardOpS_ok n, spec_l18Copy_ok n, spec_l1In_ok n, spec_l18Count_ok n, spec_YardOk_ok n, spec_l18Op_ok n, spec_FindBox_ok n, spec_l18Shift_ok n, spec_DoYard_ok n, spec_RunYard_ok n, impl_own_int_ok n, impl_own_int_f104_ok n, impl_Yard_own_ok n, impl_in_ok n, impl_idRight_ok n, impl_YardOk_ok n, slices_Index_int_int_ok n, impl_FindBox_ok n, impl_Yard_lift_ok n, impl_DoYard_ok n, impl_RunYard_ok n, laws_eqIntS_ok n, laws_eqIntSS_ok n, laws_eqYard_ok n, laws_eqYardOp_ok n, laws_eqYardOpS_ok n, laws_markIntS_ok n, laws_markIntSS_ok n, laws_markYard_ok n, laws_markYardOpS_ok n, laws_heldIntS_ok n, laws_heldIntSS_ok n, laws_heldYard_ok n, laws_FnExactRunYard_ok n, trivial⟩
theorem sem (n i : Nat) : SemOk (Phi n i) (CallOk Try.prog T) := phiE_ok (entsOk n) i
end Go.Sm.D5
