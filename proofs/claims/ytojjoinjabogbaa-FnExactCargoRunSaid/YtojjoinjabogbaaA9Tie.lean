import Derived.Test.YtojjoinjabogbaaA9Tb
import Derived.KernelRfl
/- Each function's code computes what the plain function computes. -/
set_option linter.unusedSimpArgs false
set_option linter.deprecated false
set_option linter.unusedSectionVars false
set_option linter.unusedVariables false
set_option maxRecDepth 100000
open Go Go.Proofs
noncomputable section
namespace Go.Sm.A9
/-- By recursors, and of a greater height than all of the functions: the kernel takes these apart first. -/
def obind {α β : Type} (o : Option α) (f : α → Option β) : Option β := let _ := @laws_FnExactCargoRun; Option.rec (motive := fun _ => Option β) none (fun a => f a) o
theorem obind_some {α β : Type} {o : Option α} {f : α → Option β} {y : β} (h : obind o f = some y) : ∃ a, o = some a ∧ f a = some y := by
  cases o with
  | none => cases h
  | some a => exact ⟨a, rfl, h⟩
def ocons {β : Type} (l : List (A T)) (f : A T → List (A T) → Option β) : Option β := let _ := @laws_FnExactCargoRun; List.rec (motive := fun _ => Option β) none (fun a r _ => f a r) l
theorem ocons_some {β : Type} {l : List (A T)} {f : A T → List (A T) → Option β} {y : β} (h : ocons l f = some y) : ∃ a r, l = a :: r ∧ f a r = some y := by
  cases l with
  | nil => cases h
  | cons a r => exact ⟨a, r, rfl, h⟩
def onil {β : Type} (l : List (A T)) (x : Option β) : Option β := let _ := @laws_FnExactCargoRun; List.rec (motive := fun _ => Option β) x (fun _ _ _ => none) l
theorem onil_some {β : Type} {l : List (A T)} {x : Option β} {y : β} (h : onil l x = some y) : l = [] ∧ x = some y := by
  cases l with
  | nil => exact ⟨rfl, h⟩
  | cons a r => cases h
def laws_szCargoTankS_dec (res : Res T) : Option Int := match res.rets, res.outs with
  | [a0], [] => (retV (T := T) 3 a0).bind fun r0 => some (r0)
  | _, _ => none
def laws_szCargoTankS_enc (y : Int) : Res T := ⟨[vR T 3 y], []⟩
theorem laws_szCargoTankS_de (res : Res T) (y : Int) (h : laws_szCargoTankS_dec res = some y) : res = laws_szCargoTankS_enc y := by
  obtain ⟨rets, outs⟩ := res
  unfold laws_szCargoTankS_dec at h
  dsimp only at h
  split at h
  · obtain ⟨r0, h0, h⟩ := Option.bind_eq_some_iff.1 h
    cases h
    rw [retV_eq ok h0]
    rfl
  · cases h
def laws_szCargoOpS_dec (res : Res T) : Option Int := match res.rets, res.outs with
  | [a0], [] => (retV (T := T) 3 a0).bind fun r0 => some (r0)
  | _, _ => none
def laws_szCargoOpS_enc (y : Int) : Res T := ⟨[vR T 3 y], []⟩
theorem laws_szCargoOpS_de (res : Res T) (y : Int) (h : laws_szCargoOpS_dec res = some y) : res = laws_szCargoOpS_enc y := by
  obtain ⟨rets, outs⟩ := res
  unfold laws_szCargoOpS_dec at h
  dsimp only at h
  split at h
  · obtain ⟨r0, h0, h⟩ := Option.bind_eq_some_iff.1 h
    cases h
    rw [retV_eq ok h0]
    rfl
  · cases h
def laws_toCargoTank_dec (res : Res T) : Option SCargoTank := match res.rets, res.outs with
  | [a0], [] => (retV (T := T) 198 a0).bind fun r0 => some (r0)
  | _, _ => none
def laws_toCargoTank_enc (y : SCargoTank) : Res T := ⟨[vR T 198 y], []⟩
theorem laws_toCargoTank_de (res : Res T) (y : SCargoTank) (h : laws_toCargoTank_dec res = some y) : res = laws_toCargoTank_enc y := by
  obtain ⟨rets, outs⟩ := res
  unfold laws_toCargoTank_dec at h
  dsimp only at h
  split at h
  · obtain ⟨r0, h0, h⟩ := Option.bind_eq_some_iff.1 h
    cases h
    rw [retV_eq ok h0]
    rfl
  · cases h
def laws_toCargoTankS_dec (res : Res T) : Option (List SCargoTank) := match res.rets, res.outs with
  | [a0], [] => (retV (T := T) 86 a0).bind fun r0 => some (r0)
  | _, _ => none
def laws_toCargoTankS_enc (y : List SCargoTank) : Res T := ⟨[vR T 86 y], []⟩
theorem laws_toCargoTankS_de (res : Res T) (y : List SCargoTank) (h : laws_toCargoTankS_dec res = some y) : res = laws_toCargoTankS_enc y := by
  obtain ⟨rets, outs⟩ := res
  unfold laws_toCargoTankS_dec at h
  dsimp only at h
  split at h
  · obtain ⟨r0, h0, h⟩ := Option.bind_eq_some_iff.1 h
    cases h
    rw [retV_eq ok h0]
    rfl
  · cases h
def laws_toCargoOp_dec (res : Res T) : Option SCargoOp := match res.rets, res.outs with
  | [a0], [] => (retV (T := T) 90 a0).bind fun r0 => some (r0)
  | _, _ => none
def laws_toCargoOp_enc (y : SCargoOp) : Res T := ⟨[vR T 90 y], []⟩
theorem laws_toCargoOp_de (res : Res T) (y : SCargoOp) (h : laws_toCargoOp_dec res = some y) : res = laws_toCargoOp_enc y := by
  obtain ⟨rets, outs⟩ := res
  unfold laws_toCargoOp_dec at h
  dsimp only at h
  split at h
  · obtain ⟨r0, h0, h⟩ := Option.bind_eq_some_iff.1 h
    cases h
    rw [retV_eq ok h0]
    rfl
  · cases h
def laws_toCargoOpS_dec (res : Res T) : Option (List SCargoOp) := match res.rets, res.outs with
  | [a0], [] => (retV (T := T) 99 a0).bind fun r0 => some (r0)
  | _, _ => none
def laws_toCargoOpS_enc (y : List SCargoOp) : Res T := ⟨[vR T 99 y], []⟩
theorem laws_toCargoOpS_de (res : Res T) (y : List SCargoOp) (h : laws_toCargoOpS_dec res = some y) : res = laws_toCargoOpS_enc y := by
  obtain ⟨rets, outs⟩ := res
  unfold laws_toCargoOpS_dec at h
  dsimp only at h
  split at h
  · obtain ⟨r0, h0, h⟩ := Option.bind_eq_some_iff.1 h
    cases h
    rw [retV_eq ok h0]
    rfl
  · cases h
def spec_l1In_dec (res : Res T) : Option Bool := match res.rets, res.outs with
  | [a0], [] => (retV (T := T) 4 a0).bind fun r0 => some (r0)
  | _, _ => none
def spec_l1In_enc (y : Bool) : Res T := ⟨[vR T 4 y], []⟩
theorem spec_l1In_de (res : Res T) (y : Bool) (h : spec_l1In_dec res = some y) : res = spec_l1In_enc y := by
  obtain ⟨rets, outs⟩ := res
  unfold spec_l1In_dec at h
  dsimp only at h
  split at h
  · obtain ⟨r0, h0, h⟩ := Option.bind_eq_some_iff.1 h
    cases h
    rw [retV_eq ok h0]
    rfl
  · cases h
def spec_TanksOk_dec (res : Res T) : Option Bool := match res.rets, res.outs with
  | [a0], [] => (retV (T := T) 4 a0).bind fun r0 => some (r0)
  | _, _ => none
def spec_TanksOk_enc (y : Bool) : Res T := ⟨[vR T 4 y], []⟩
theorem spec_TanksOk_de (res : Res T) (y : Bool) (h : spec_TanksOk_dec res = some y) : res = spec_TanksOk_enc y := by
  obtain ⟨rets, outs⟩ := res
  unfold spec_TanksOk_dec at h
  dsimp only at h
  split at h
  · obtain ⟨r0, h0, h⟩ := Option.bind_eq_some_iff.1 h
    cases h
    rw [retV_eq ok h0]
    rfl
  · cases h
def spec_l13Op_dec (res : Res T) : Option Bool := match res.rets, res.outs with
  | [a0], [] => (retV (T := T) 4 a0).bind fun r0 => some (r0)
  | _, _ => none
def spec_l13Op_enc (y : Bool) : Res T := ⟨[vR T 4 y], []⟩
theorem spec_l13Op_de (res : Res T) (y : Bool) (h : spec_l13Op_dec res = some y) : res = spec_l13Op_enc y := by
  obtain ⟨rets, outs⟩ := res
  unfold spec_l13Op_dec at h
  dsimp only at h
  split at h
  · obtain ⟨r0, h0, h⟩ := Option.bind_eq_some_iff.1 h
    cases h
    rw [retV_eq ok h0]
    rfl
  · cases h
def spec_l13In_dec (res : Res T) : Option SCargoTank := match res.rets, res.outs with
  | [a0], [] => (retV (T := T) 198 a0).bind fun r0 => some (r0)
  | _, _ => none
def spec_l13In_enc (y : SCargoTank) : Res T := ⟨[vR T 198 y], []⟩
theorem spec_l13In_de (res : Res T) (y : SCargoTank) (h : spec_l13In_dec res = some y) : res = spec_l13In_enc y := by
  obtain ⟨rets, outs⟩ := res
  unfold spec_l13In_dec at h
  dsimp only at h
  split at h
  · obtain ⟨r0, h0, h⟩ := Option.bind_eq_some_iff.1 h
    cases h
    rw [retV_eq ok h0]
    rfl
  · cases h
def spec_l13Burns_dec (res : Res T) : Option Bool := match res.rets, res.outs with
  | [a0], [] => (retV (T := T) 4 a0).bind fun r0 => some (r0)
  | _, _ => none
def spec_l13Burns_enc (y : Bool) : Res T := ⟨[vR T 4 y], []⟩
theorem spec_l13Burns_de (res : Res T) (y : Bool) (h : spec_l13Burns_dec res = some y) : res = spec_l13Burns_enc y := by
  obtain ⟨rets, outs⟩ := res
  unfold spec_l13Burns_dec at h
  dsimp only at h
  split at h
  · obtain ⟨r0, h0, h⟩ := Option.bind_eq_some_iff.1 h
    cases h
    rw [retV_eq ok h0]
    rfl
  · cases h
def spec_l3Size_dec (res : Res T) : Option Int := match res.rets, res.outs with
  | [a0], [] => (retV (T := T) 3 a0).bind fun r0 => some (r0)
  | _, _ => none
def spec_l3Size_enc (y : Int) : Res T := ⟨[vR T 3 y], []⟩
theorem spec_l3Size_de (res : Res T) (y : Int) (h : spec_l3Size_dec res = some y) : res = spec_l3Size_enc y := by
  obtain ⟨rets, outs⟩ := res
  unfold spec_l3Size_dec at h
  dsimp only at h
  split at h
  · obtain ⟨r0, h0, h⟩ := Option.bind_eq_some_iff.1 h
    cases h
    rw [retV_eq ok h0]
    rfl
  · cases h
def spec_l13Lean_dec (res : Res T) : Option Int := match res.rets, res.outs with
  | [a0], [] => (retV (T := T) 3 a0).bind fun r0 => some (r0)
  | _, _ => none
def spec_l13Lean_enc (y : Int) : Res T := ⟨[vR T 3 y], []⟩
theorem spec_l13Lean_de (res : Res T) (y : Int) (h : spec_l13Lean_dec res = some y) : res = spec_l13Lean_enc y := by
  obtain ⟨rets, outs⟩ := res
  unfold spec_l13Lean_dec at h
  dsimp only at h
  split at h
  · obtain ⟨r0, h0, h⟩ := Option.bind_eq_some_iff.1 h
    cases h
    rw [retV_eq ok h0]
    rfl
  · cases h
def spec_l13Out_dec (res : Res T) : Option SCargoTank := match res.rets, res.outs with
  | [a0], [] => (retV (T := T) 198 a0).bind fun r0 => some (r0)
  | _, _ => none
def spec_l13Out_enc (y : SCargoTank) : Res T := ⟨[vR T 198 y], []⟩
theorem spec_l13Out_de (res : Res T) (y : SCargoTank) (h : spec_l13Out_dec res = some y) : res = spec_l13Out_enc y := by
  obtain ⟨rets, outs⟩ := res
  unfold spec_l13Out_dec at h
  dsimp only at h
  split at h
  · obtain ⟨r0, h0, h⟩ := Option.bind_eq_some_iff.1 h
    cases h
    rw [retV_eq ok h0]
    rfl
  · cases h
def spec_CargoStep_dec (res : Res T) : Option (List SCargoTank × Int) := match res.rets, res.outs with
  | [a0, a1], [] => (retV (T := T) 86 a0).bind fun r0 => (retV (T := T) 3 a1).bind fun r1 => some (r0, r1)
  | _, _ => none
def spec_CargoStep_enc (y : List SCargoTank × Int) : Res T := ⟨[vR T 86 y.1, vR T 3 y.2], []⟩
theorem spec_CargoStep_de (res : Res T) (y : List SCargoTank × Int) (h : spec_CargoStep_dec res = some y) : res = spec_CargoStep_enc y := by
  obtain ⟨rets, outs⟩ := res
  unfold spec_CargoStep_dec at h
  dsimp only at h
  split at h
  · obtain ⟨r0, h0, h⟩ := Option.bind_eq_some_iff.1 h
    obtain ⟨r1, h1, h⟩ := Option.bind_eq_some_iff.1 h
    cases h
    rw [retV_eq ok h0, retV_eq ok h1]
    rfl
  · cases h
def spec_CargoRun_dec (res : Res T) : Option (List SCargoTank × List Int) := match res.rets, res.outs with
  | [a0, a1], [] => (retV (T := T) 86 a0).bind fun r0 => (retV (T := T) 24 a1).bind fun r1 => some (r0, r1)
  | _, _ => none
def spec_CargoRun_enc (y : List SCargoTank × List Int) : Res T := ⟨[vR T 86 y.1, vR T 24 y.2], []⟩
theorem spec_CargoRun_de (res : Res T) (y : List SCargoTank × List Int) (h : spec_CargoRun_dec res = some y) : res = spec_CargoRun_enc y := by
  obtain ⟨rets, outs⟩ := res
  unfold spec_CargoRun_dec at h
  dsimp only at h
  split at h
  · obtain ⟨r0, h0, h⟩ := Option.bind_eq_some_iff.1 h
    obtain ⟨r1, h1, h⟩ := Option.bind_eq_some_iff.1 h
    cases h
    rw [retV_eq ok h0, retV_eq ok h1]
    rfl
  · cases h
def impl_own_impl_CargoTank_dec (res : Res T) : Option (List SCargoTank) := match res.rets, res.outs with
  | [a0], [] => (retV (T := T) 86 a0).bind fun r0 => some (r0)
  | _, _ => none
def impl_own_impl_CargoTank_enc (y : List SCargoTank) : Res T := ⟨[vR T 86 y], []⟩
theorem impl_own_impl_CargoTank_de (res : Res T) (y : List SCargoTank) (h : impl_own_impl_CargoTank_dec res = some y) : res = impl_own_impl_CargoTank_enc y := by
  obtain ⟨rets, outs⟩ := res
  unfold impl_own_impl_CargoTank_dec at h
  dsimp only at h
  split at h
  · obtain ⟨r0, h0, h⟩ := Option.bind_eq_some_iff.1 h
    cases h
    rw [retV_eq ok h0]
    rfl
  · cases h
def impl_in_dec (res : Res T) : Option Bool := match res.rets, res.outs with
  | [a0], [] => (retV (T := T) 4 a0).bind fun r0 => some (r0)
  | _, _ => none
def impl_in_enc (y : Bool) : Res T := ⟨[vR T 4 y], []⟩
theorem impl_in_de (res : Res T) (y : Bool) (h : impl_in_dec res = some y) : res = impl_in_enc y := by
  obtain ⟨rets, outs⟩ := res
  unfold impl_in_dec at h
  dsimp only at h
  split at h
  · obtain ⟨r0, h0, h⟩ := Option.bind_eq_some_iff.1 h
    cases h
    rw [retV_eq ok h0]
    rfl
  · cases h
def impl_TanksOk_1_dec (res : Res T) : Option Bool := match res.rets, res.outs with
  | [a0], [] => (retV (T := T) 4 a0).bind fun r0 => some (r0)
  | _, _ => none
def impl_TanksOk_1_enc (y : Bool) : Res T := ⟨[vR T 4 y], []⟩
theorem impl_TanksOk_1_de (res : Res T) (y : Bool) (h : impl_TanksOk_1_dec res = some y) : res = impl_TanksOk_1_enc y := by
  obtain ⟨rets, outs⟩ := res
  unfold impl_TanksOk_1_dec at h
  dsimp only at h
  split at h
  · obtain ⟨r0, h0, h⟩ := Option.bind_eq_some_iff.1 h
    cases h
    rw [retV_eq ok h0]
    rfl
  · cases h
def slices_IndexFunc_impl_CargoTank_impl_CargoTank__impl_TanksOk_1_dec (res : Res T) : Option Int := match res.rets, res.outs with
  | [a0], [] => (retV (T := T) 3 a0).bind fun r0 => some (r0)
  | _, _ => none
def slices_IndexFunc_impl_CargoTank_impl_CargoTank__impl_TanksOk_1_enc (y : Int) : Res T := ⟨[vR T 3 y], []⟩
theorem slices_IndexFunc_impl_CargoTank_impl_CargoTank__impl_TanksOk_1_de (res : Res T) (y : Int) (h : slices_IndexFunc_impl_CargoTank_impl_CargoTank__impl_TanksOk_1_dec res = some y) : res = slices_IndexFunc_impl_CargoTank_impl_CargoTank__impl_TanksOk_1_enc y := by
  obtain ⟨rets, outs⟩ := res
  unfold slices_IndexFunc_impl_CargoTank_impl_CargoTank__impl_TanksOk_1_dec at h
  dsimp only at h
  split at h
  · obtain ⟨r0, h0, h⟩ := Option.bind_eq_some_iff.1 h
    cases h
    rw [retV_eq ok h0]
    rfl
  · cases h
def slices_ContainsFunc_impl_CargoTank_impl_CargoTank__impl_TanksOk_1_dec (res : Res T) : Option Bool := match res.rets, res.outs with
  | [a0], [] => (retV (T := T) 4 a0).bind fun r0 => some (r0)
  | _, _ => none
def slices_ContainsFunc_impl_CargoTank_impl_CargoTank__impl_TanksOk_1_enc (y : Bool) : Res T := ⟨[vR T 4 y], []⟩
theorem slices_ContainsFunc_impl_CargoTank_impl_CargoTank__impl_TanksOk_1_de (res : Res T) (y : Bool) (h : slices_ContainsFunc_impl_CargoTank_impl_CargoTank__impl_TanksOk_1_dec res = some y) : res = slices_ContainsFunc_impl_CargoTank_impl_CargoTank__impl_TanksOk_1_enc y := by
  obtain ⟨rets, outs⟩ := res
  unfold slices_ContainsFunc_impl_CargoTank_impl_CargoTank__impl_TanksOk_1_dec at h
  dsimp only at h
  split at h
  · obtain ⟨r0, h0, h⟩ := Option.bind_eq_some_iff.1 h
    cases h
    rw [retV_eq ok h0]
    rfl
  · cases h
def impl_TanksOk_dec (res : Res T) : Option Bool := match res.rets, res.outs with
  | [a0], [] => (retV (T := T) 4 a0).bind fun r0 => some (r0)
  | _, _ => none
def impl_TanksOk_enc (y : Bool) : Res T := ⟨[vR T 4 y], []⟩
theorem impl_TanksOk_de (res : Res T) (y : Bool) (h : impl_TanksOk_dec res = some y) : res = impl_TanksOk_enc y := by
  obtain ⟨rets, outs⟩ := res
  unfold impl_TanksOk_dec at h
  dsimp only at h
  split at h
  · obtain ⟨r0, h0, h⟩ := Option.bind_eq_some_iff.1 h
    cases h
    rw [retV_eq ok h0]
    rfl
  · cases h
def impl_CargoTank_mayBurn_dec (res : Res T) : Option Bool := match res.rets, res.outs with
  | [a0], [] => (retV (T := T) 4 a0).bind fun r0 => some (r0)
  | _, _ => none
def impl_CargoTank_mayBurn_enc (y : Bool) : Res T := ⟨[vR T 4 y], []⟩
theorem impl_CargoTank_mayBurn_de (res : Res T) (y : Bool) (h : impl_CargoTank_mayBurn_dec res = some y) : res = impl_CargoTank_mayBurn_enc y := by
  obtain ⟨rets, outs⟩ := res
  unfold impl_CargoTank_mayBurn_dec at h
  dsimp only at h
  split at h
  · obtain ⟨r0, h0, h⟩ := Option.bind_eq_some_iff.1 h
    cases h
    rw [retV_eq ok h0]
    rfl
  · cases h
def impl_leanOf_dec (res : Res T) : Option Int := match res.rets, res.outs with
  | [a0], [] => (retV (T := T) 3 a0).bind fun r0 => some (r0)
  | _, _ => none
def impl_leanOf_enc (y : Int) : Res T := ⟨[vR T 3 y], []⟩
theorem impl_leanOf_de (res : Res T) (y : Int) (h : impl_leanOf_dec res = some y) : res = impl_leanOf_enc y := by
  obtain ⟨rets, outs⟩ := res
  unfold impl_leanOf_dec at h
  dsimp only at h
  split at h
  · obtain ⟨r0, h0, h⟩ := Option.bind_eq_some_iff.1 h
    cases h
    rw [retV_eq ok h0]
    rfl
  · cases h
def impl_size_dec (res : Res T) : Option Int := match res.rets, res.outs with
  | [a0], [] => (retV (T := T) 3 a0).bind fun r0 => some (r0)
  | _, _ => none
def impl_size_enc (y : Int) : Res T := ⟨[vR T 3 y], []⟩
theorem impl_size_de (res : Res T) (y : Int) (h : impl_size_dec res = some y) : res = impl_size_enc y := by
  obtain ⟨rets, outs⟩ := res
  unfold impl_size_dec at h
  dsimp only at h
  split at h
  · obtain ⟨r0, h0, h⟩ := Option.bind_eq_some_iff.1 h
    cases h
    rw [retV_eq ok h0]
    rfl
  · cases h
def impl_CargoTank_out_dec (res : Res T) : Option (List SCargoTank) := match res.rets, res.outs with
  | [], [b0] => (outS (T := T) 198 b0).bind fun r0 => some (r0)
  | _, _ => none
def impl_CargoTank_out_enc (y : List SCargoTank) : Res T := ⟨[], [.sl 198 y]⟩
theorem impl_CargoTank_out_de (res : Res T) (y : List SCargoTank) (h : impl_CargoTank_out_dec res = some y) : res = impl_CargoTank_out_enc y := by
  obtain ⟨rets, outs⟩ := res
  unfold impl_CargoTank_out_dec at h
  dsimp only at h
  split at h
  · obtain ⟨r0, h0, h⟩ := Option.bind_eq_some_iff.1 h
    cases h
    rw [outS_eq h0]
    rfl
  · cases h
def impl_CargoStep_dec (res : Res T) : Option (List SCargoTank × Int) := match res.rets, res.outs with
  | [a0, a1], [] => (retV (T := T) 86 a0).bind fun r0 => (retV (T := T) 3 a1).bind fun r1 => some (r0, r1)
  | _, _ => none
def impl_CargoStep_enc (y : List SCargoTank × Int) : Res T := ⟨[vR T 86 y.1, vR T 3 y.2], []⟩
theorem impl_CargoStep_de (res : Res T) (y : List SCargoTank × Int) (h : impl_CargoStep_dec res = some y) : res = impl_CargoStep_enc y := by
  obtain ⟨rets, outs⟩ := res
  unfold impl_CargoStep_dec at h
  dsimp only at h
  split at h
  · obtain ⟨r0, h0, h⟩ := Option.bind_eq_some_iff.1 h
    obtain ⟨r1, h1, h⟩ := Option.bind_eq_some_iff.1 h
    cases h
    rw [retV_eq ok h0, retV_eq ok h1]
    rfl
  · cases h
def impl_own_int_dec (res : Res T) : Option (List Int) := match res.rets, res.outs with
  | [a0], [] => (retV (T := T) 24 a0).bind fun r0 => some (r0)
  | _, _ => none
def impl_own_int_enc (y : List Int) : Res T := ⟨[vR T 24 y], []⟩
theorem impl_own_int_de (res : Res T) (y : List Int) (h : impl_own_int_dec res = some y) : res = impl_own_int_enc y := by
  obtain ⟨rets, outs⟩ := res
  unfold impl_own_int_dec at h
  dsimp only at h
  split at h
  · obtain ⟨r0, h0, h⟩ := Option.bind_eq_some_iff.1 h
    cases h
    rw [retV_eq ok h0]
    rfl
  · cases h
def impl_CargoRun_dec (res : Res T) : Option (List SCargoTank × List Int) := match res.rets, res.outs with
  | [a0, a1], [] => (retV (T := T) 86 a0).bind fun r0 => (retV (T := T) 24 a1).bind fun r1 => some (r0, r1)
  | _, _ => none
def impl_CargoRun_enc (y : List SCargoTank × List Int) : Res T := ⟨[vR T 86 y.1, vR T 24 y.2], []⟩
theorem impl_CargoRun_de (res : Res T) (y : List SCargoTank × List Int) (h : impl_CargoRun_dec res = some y) : res = impl_CargoRun_enc y := by
  obtain ⟨rets, outs⟩ := res
  unfold impl_CargoRun_dec at h
  dsimp only at h
  split at h
  · obtain ⟨r0, h0, h⟩ := Option.bind_eq_some_iff.1 h
    obtain ⟨r1, h1, h⟩ := Option.bind_eq_some_iff.1 h
    cases h
    rw [retV_eq ok h0, retV_eq ok h1]
    rfl
  · cases h
def laws_eqCargoTank_dec (res : Res T) : Option Bool := match res.rets, res.outs with
  | [a0], [] => (retV (T := T) 4 a0).bind fun r0 => some (r0)
  | _, _ => none
def laws_eqCargoTank_enc (y : Bool) : Res T := ⟨[vR T 4 y], []⟩
theorem laws_eqCargoTank_de (res : Res T) (y : Bool) (h : laws_eqCargoTank_dec res = some y) : res = laws_eqCargoTank_enc y := by
  obtain ⟨rets, outs⟩ := res
  unfold laws_eqCargoTank_dec at h
  dsimp only at h
  split at h
  · obtain ⟨r0, h0, h⟩ := Option.bind_eq_some_iff.1 h
    cases h
    rw [retV_eq ok h0]
    rfl
  · cases h
def laws_eqCargoTankS_dec (res : Res T) : Option Bool := match res.rets, res.outs with
  | [a0], [] => (retV (T := T) 4 a0).bind fun r0 => some (r0)
  | _, _ => none
def laws_eqCargoTankS_enc (y : Bool) : Res T := ⟨[vR T 4 y], []⟩
theorem laws_eqCargoTankS_de (res : Res T) (y : Bool) (h : laws_eqCargoTankS_dec res = some y) : res = laws_eqCargoTankS_enc y := by
  obtain ⟨rets, outs⟩ := res
  unfold laws_eqCargoTankS_dec at h
  dsimp only at h
  split at h
  · obtain ⟨r0, h0, h⟩ := Option.bind_eq_some_iff.1 h
    cases h
    rw [retV_eq ok h0]
    rfl
  · cases h
def laws_eqIntS_dec (res : Res T) : Option Bool := match res.rets, res.outs with
  | [a0], [] => (retV (T := T) 4 a0).bind fun r0 => some (r0)
  | _, _ => none
def laws_eqIntS_enc (y : Bool) : Res T := ⟨[vR T 4 y], []⟩
theorem laws_eqIntS_de (res : Res T) (y : Bool) (h : laws_eqIntS_dec res = some y) : res = laws_eqIntS_enc y := by
  obtain ⟨rets, outs⟩ := res
  unfold laws_eqIntS_dec at h
  dsimp only at h
  split at h
  · obtain ⟨r0, h0, h⟩ := Option.bind_eq_some_iff.1 h
    cases h
    rw [retV_eq ok h0]
    rfl
  · cases h
def laws_eqCargoOp_dec (res : Res T) : Option Bool := match res.rets, res.outs with
  | [a0], [] => (retV (T := T) 4 a0).bind fun r0 => some (r0)
  | _, _ => none
def laws_eqCargoOp_enc (y : Bool) : Res T := ⟨[vR T 4 y], []⟩
theorem laws_eqCargoOp_de (res : Res T) (y : Bool) (h : laws_eqCargoOp_dec res = some y) : res = laws_eqCargoOp_enc y := by
  obtain ⟨rets, outs⟩ := res
  unfold laws_eqCargoOp_dec at h
  dsimp only at h
  split at h
  · obtain ⟨r0, h0, h⟩ := Option.bind_eq_some_iff.1 h
    cases h
    rw [retV_eq ok h0]
    rfl
  · cases h
def laws_eqCargoOpS_dec (res : Res T) : Option Bool := match res.rets, res.outs with
  | [a0], [] => (retV (T := T) 4 a0).bind fun r0 => some (r0)
  | _, _ => none
def laws_eqCargoOpS_enc (y : Bool) : Res T := ⟨[vR T 4 y], []⟩
theorem laws_eqCargoOpS_de (res : Res T) (y : Bool) (h : laws_eqCargoOpS_dec res = some y) : res = laws_eqCargoOpS_enc y := by
  obtain ⟨rets, outs⟩ := res
  unfold laws_eqCargoOpS_dec at h
  dsimp only at h
  split at h
  · obtain ⟨r0, h0, h⟩ := Option.bind_eq_some_iff.1 h
    cases h
    rw [retV_eq ok h0]
    rfl
  · cases h
def laws_markCargoTankS_dec (res : Res T) : Option (Int × List SCargoTank) := match res.rets, res.outs with
  | [a0], [b0] => (retV (T := T) 3 a0).bind fun r0 => (outS (T := T) 198 b0).bind fun r1 => some (r0, r1)
  | _, _ => none
def laws_markCargoTankS_enc (y : Int × List SCargoTank) : Res T := ⟨[vR T 3 y.1], [.sl 198 y.2]⟩
theorem laws_markCargoTankS_de (res : Res T) (y : Int × List SCargoTank) (h : laws_markCargoTankS_dec res = some y) : res = laws_markCargoTankS_enc y := by
  obtain ⟨rets, outs⟩ := res
  unfold laws_markCargoTankS_dec at h
  dsimp only at h
  split at h
  · obtain ⟨r0, h0, h⟩ := Option.bind_eq_some_iff.1 h
    obtain ⟨r1, h1, h⟩ := Option.bind_eq_some_iff.1 h
    cases h
    rw [retV_eq ok h0, outS_eq h1]
    rfl
  · cases h
def laws_markCargoOpS_dec (res : Res T) : Option (Int × List SCargoOp) := match res.rets, res.outs with
  | [a0], [b0] => (retV (T := T) 3 a0).bind fun r0 => (outS (T := T) 90 b0).bind fun r1 => some (r0, r1)
  | _, _ => none
def laws_markCargoOpS_enc (y : Int × List SCargoOp) : Res T := ⟨[vR T 3 y.1], [.sl 90 y.2]⟩
theorem laws_markCargoOpS_de (res : Res T) (y : Int × List SCargoOp) (h : laws_markCargoOpS_dec res = some y) : res = laws_markCargoOpS_enc y := by
  obtain ⟨rets, outs⟩ := res
  unfold laws_markCargoOpS_dec at h
  dsimp only at h
  split at h
  · obtain ⟨r0, h0, h⟩ := Option.bind_eq_some_iff.1 h
    obtain ⟨r1, h1, h⟩ := Option.bind_eq_some_iff.1 h
    cases h
    rw [retV_eq ok h0, outS_eq h1]
    rfl
  · cases h
def laws_markIntS_dec (res : Res T) : Option (Int × List Int) := match res.rets, res.outs with
  | [a0], [b0] => (retV (T := T) 3 a0).bind fun r0 => (outS (T := T) 3 b0).bind fun r1 => some (r0, r1)
  | _, _ => none
def laws_markIntS_enc (y : Int × List Int) : Res T := ⟨[vR T 3 y.1], [.sl 3 y.2]⟩
theorem laws_markIntS_de (res : Res T) (y : Int × List Int) (h : laws_markIntS_dec res = some y) : res = laws_markIntS_enc y := by
  obtain ⟨rets, outs⟩ := res
  unfold laws_markIntS_dec at h
  dsimp only at h
  split at h
  · obtain ⟨r0, h0, h⟩ := Option.bind_eq_some_iff.1 h
    obtain ⟨r1, h1, h⟩ := Option.bind_eq_some_iff.1 h
    cases h
    rw [retV_eq ok h0, outS_eq h1]
    rfl
  · cases h
def laws_heldCargoTankS_dec (res : Res T) : Option Int := match res.rets, res.outs with
  | [a0], [] => (retV (T := T) 3 a0).bind fun r0 => some (r0)
  | _, _ => none
def laws_heldCargoTankS_enc (y : Int) : Res T := ⟨[vR T 3 y], []⟩
theorem laws_heldCargoTankS_de (res : Res T) (y : Int) (h : laws_heldCargoTankS_dec res = some y) : res = laws_heldCargoTankS_enc y := by
  obtain ⟨rets, outs⟩ := res
  unfold laws_heldCargoTankS_dec at h
  dsimp only at h
  split at h
  · obtain ⟨r0, h0, h⟩ := Option.bind_eq_some_iff.1 h
    cases h
    rw [retV_eq ok h0]
    rfl
  · cases h
def laws_heldIntS_dec (res : Res T) : Option Int := match res.rets, res.outs with
  | [a0], [] => (retV (T := T) 3 a0).bind fun r0 => some (r0)
  | _, _ => none
def laws_heldIntS_enc (y : Int) : Res T := ⟨[vR T 3 y], []⟩
theorem laws_heldIntS_de (res : Res T) (y : Int) (h : laws_heldIntS_dec res = some y) : res = laws_heldIntS_enc y := by
  obtain ⟨rets, outs⟩ := res
  unfold laws_heldIntS_dec at h
  dsimp only at h
  split at h
  · obtain ⟨r0, h0, h⟩ := Option.bind_eq_some_iff.1 h
    cases h
    rw [retV_eq ok h0]
    rfl
  · cases h
def laws_FnExactCargoRun_dec (res : Res T) : Option Bool := match res.rets, res.outs with
  | [a0], [] => (retV (T := T) 4 a0).bind fun r0 => some (r0)
  | _, _ => none
def laws_FnExactCargoRun_enc (y : Bool) : Res T := ⟨[vR T 4 y], []⟩
theorem laws_FnExactCargoRun_de (res : Res T) (y : Bool) (h : laws_FnExactCargoRun_dec res = some y) : res = laws_FnExactCargoRun_enc y := by
  obtain ⟨rets, outs⟩ := res
  unfold laws_FnExactCargoRun_dec at h
  dsimp only at h
  split at h
  · obtain ⟨r0, h0, h⟩ := Option.bind_eq_some_iff.1 h
    cases h
    rw [retV_eq ok h0]
    rfl
  · cases h
def laws_szCargoTankS_D (n : Nat) (r0 : List (A T)) : Option Int := ocons r0 fun a0 r1 => ocons r1 fun a1 r2 => onil r2 (obind (argV (T := T) 82 a0) fun a0 => obind (argV (T := T) 3 a1) fun left1 => laws_szCargoTankS n a0 left1)
def laws_szCargoTankS_ent (n : Nat) : Ent T := ⟨59, 0, [], Int, laws_szCargoTankS_D n, laws_szCargoTankS_enc⟩
def laws_szCargoOpS_D (n : Nat) (r0 : List (A T)) : Option Int := ocons r0 fun a0 r1 => ocons r1 fun a1 r2 => onil r2 (obind (argV (T := T) 95 a0) fun a0 => obind (argV (T := T) 3 a1) fun left1 => laws_szCargoOpS n a0 left1)
def laws_szCargoOpS_ent (n : Nat) : Ent T := ⟨67, 1, [], Int, laws_szCargoOpS_D n, laws_szCargoOpS_enc⟩
def laws_toCargoTank_D (n : Nat) (r0 : List (A T)) : Option SCargoTank := ocons r0 fun a0 r1 => onil r1 (obind (argV (T := T) 203 a0) fun a0 => laws_toCargoTank n a0)
def laws_toCargoTank_ent (n : Nat) : Ent T := ⟨147, 2, [], SCargoTank, laws_toCargoTank_D n, laws_toCargoTank_enc⟩
def laws_toCargoTankS_D (n : Nat) (r0 : List (A T)) : Option (List SCargoTank) := ocons r0 fun a0 r1 => onil r1 (obind (argV (T := T) 82 a0) fun a0 => laws_toCargoTankS n a0)
def laws_toCargoTankS_ent (n : Nat) : Ent T := ⟨61, 3, [], List SCargoTank, laws_toCargoTankS_D n, laws_toCargoTankS_enc⟩
def laws_toCargoOp_D (n : Nat) (r0 : List (A T)) : Option SCargoOp := ocons r0 fun a0 r1 => onil r1 (obind (argV (T := T) 84 a0) fun a0 => laws_toCargoOp n a0)
def laws_toCargoOp_ent (n : Nat) : Ent T := ⟨62, 4, [], SCargoOp, laws_toCargoOp_D n, laws_toCargoOp_enc⟩
def laws_toCargoOpS_D (n : Nat) (r0 : List (A T)) : Option (List SCargoOp) := ocons r0 fun a0 r1 => onil r1 (obind (argV (T := T) 95 a0) fun a0 => laws_toCargoOpS n a0)
def laws_toCargoOpS_ent (n : Nat) : Ent T := ⟨69, 5, [], List SCargoOp, laws_toCargoOpS_D n, laws_toCargoOpS_enc⟩
def spec_l1In_D (n : Nat) (r0 : List (A T)) : Option Bool := ocons r0 fun a0 r1 => ocons r1 fun a1 r2 => ocons r2 fun a2 r3 => onil r3 (obind (argV (T := T) 3 a0) fun x0 => obind (argV (T := T) 3 a1) fun a1 => obind (argV (T := T) 3 a2) fun b2 => spec_l1In n x0 a1 b2)
def spec_l1In_ent (n : Nat) : Ent T := ⟨101, 6, [], Bool, spec_l1In_D n, spec_l1In_enc⟩
def spec_TanksOk_D (n : Nat) (r0 : List (A T)) : Option Bool := ocons r0 fun a0 r1 => onil r1 (obind (argV (T := T) 86 a0) fun list0 => spec_TanksOk n list0)
def spec_TanksOk_ent (n : Nat) : Ent T := ⟨141, 7, [], Bool, spec_TanksOk_D n, spec_TanksOk_enc⟩
def spec_l13Op_D (n : Nat) (r0 : List (A T)) : Option Bool := ocons r0 fun a0 r1 => ocons r1 fun a1 r2 => onil r2 (obind (argV (T := T) 86 a0) fun list0 => obind (argV (T := T) 90 a1) fun op1 => spec_l13Op n list0 op1)
def spec_l13Op_ent (n : Nat) : Ent T := ⟨142, 8, [], Bool, spec_l13Op_D n, spec_l13Op_enc⟩
def spec_l13In_D (n : Nat) (r0 : List (A T)) : Option SCargoTank := ocons r0 fun a0 r1 => ocons r1 fun a1 r2 => onil r2 (obind (argV (T := T) 198 a0) fun t0 => obind (argV (T := T) 3 a1) fun many1 => spec_l13In n t0 many1)
def spec_l13In_ent (n : Nat) : Ent T := ⟨143, 9, [], SCargoTank, spec_l13In_D n, spec_l13In_enc⟩
def spec_l13Burns_D (n : Nat) (r0 : List (A T)) : Option Bool := ocons r0 fun a0 r1 => onil r1 (obind (argV (T := T) 198 a0) fun t0 => spec_l13Burns n t0)
def spec_l13Burns_ent (n : Nat) : Ent T := ⟨145, 10, [], Bool, spec_l13Burns_D n, spec_l13Burns_enc⟩
def spec_l3Size_D (n : Nat) (r0 : List (A T)) : Option Int := ocons r0 fun a0 r1 => onil r1 (obind (argV (T := T) 3 a0) fun x0 => spec_l3Size n x0)
def spec_l3Size_ent (n : Nat) : Ent T := ⟨221, 11, [], Int, spec_l3Size_D n, spec_l3Size_enc⟩
def spec_l13Lean_D (n : Nat) (r0 : List (A T)) : Option Int := ocons r0 fun a0 r1 => onil r1 (obind (argV (T := T) 86 a0) fun list0 => spec_l13Lean n list0)
def spec_l13Lean_ent (n : Nat) : Ent T := ⟨146, 12, [], Int, spec_l13Lean_D n, spec_l13Lean_enc⟩
def spec_l13Out_D (n : Nat) (r0 : List (A T)) : Option SCargoTank := ocons r0 fun a0 r1 => ocons r1 fun a1 r2 => onil r2 (obind (argV (T := T) 198 a0) fun t0 => obind (argV (T := T) 3 a1) fun many1 => spec_l13Out n t0 many1)
def spec_l13Out_ent (n : Nat) : Ent T := ⟨144, 13, [], SCargoTank, spec_l13Out_D n, spec_l13Out_enc⟩
def spec_CargoStep_D (n : Nat) (r0 : List (A T)) : Option (List SCargoTank × Int) := ocons r0 fun a0 r1 => ocons r1 fun a1 r2 => ocons r2 fun a2 r3 => onil r3 (obind (argV (T := T) 86 a0) fun list0 => obind (argV (T := T) 90 a1) fun op1 => obind (argV (T := T) 3 a2) fun lean2 => spec_CargoStep n list0 op1 lean2)
def spec_CargoStep_ent (n : Nat) : Ent T := ⟨60, 14, [], List SCargoTank × Int, spec_CargoStep_D n, spec_CargoStep_enc⟩
def spec_CargoRun_D (n : Nat) (r0 : List (A T)) : Option (List SCargoTank × List Int) := ocons r0 fun a0 r1 => ocons r1 fun a1 r2 => ocons r2 fun a2 r3 => onil r3 (obind (argV (T := T) 86 a0) fun list0 => obind (argV (T := T) 99 a1) fun ops1 => obind (argV (T := T) 3 a2) fun lean2 => spec_CargoRun n list0 ops1 lean2)
def spec_CargoRun_ent (n : Nat) : Ent T := ⟨68, 15, [], List SCargoTank × List Int, spec_CargoRun_D n, spec_CargoRun_enc⟩
def impl_own_impl_CargoTank_D (n : Nat) (r0 : List (A T)) : Option (List SCargoTank) := ocons r0 fun a0 r1 => onil r1 (obind (argV (T := T) 86 a0) fun l0 => impl_own_impl_CargoTank n l0)
def impl_own_impl_CargoTank_ent (n : Nat) : Ent T := ⟨148, 16, [], List SCargoTank, impl_own_impl_CargoTank_D n, impl_own_impl_CargoTank_enc⟩
def impl_in_D (n : Nat) (r0 : List (A T)) : Option Bool := ocons r0 fun a0 r1 => ocons r1 fun a1 r2 => ocons r2 fun a2 r3 => onil r3 (obind (argV (T := T) 3 a0) fun n0 => obind (argV (T := T) 3 a1) fun least1 => obind (argV (T := T) 3 a2) fun most2 => impl_in n n0 least1 most2)
def impl_in_ent (n : Nat) : Ent T := ⟨113, 17, [], Bool, impl_in_D n, impl_in_enc⟩
def impl_TanksOk_1_D (n : Nat) (r0 : List (A T)) : Option Bool := ocons r0 fun a0 r1 => onil r1 (obind (argV (T := T) 198 a0) fun t0 => impl_TanksOk_1 n t0)
def impl_TanksOk_1_ent (n : Nat) : Ent T := ⟨223, 18, [], Bool, impl_TanksOk_1_D n, impl_TanksOk_1_enc⟩
def slices_IndexFunc_impl_CargoTank_impl_CargoTank__impl_TanksOk_1_D (n : Nat) (ar : List (A T)) : Option Int := match ar with
  | [a0, .fn _ []] => obind (argV (T := T) 86 a0) fun s0 => slices_IndexFunc_impl_CargoTank_impl_CargoTank__impl_TanksOk_1 n s0
  | _ => none
def slices_IndexFunc_impl_CargoTank_impl_CargoTank__impl_TanksOk_1_ent (n : Nat) : Ent T := ⟨251, 19, [223], Int, slices_IndexFunc_impl_CargoTank_impl_CargoTank__impl_TanksOk_1_D n, slices_IndexFunc_impl_CargoTank_impl_CargoTank__impl_TanksOk_1_enc⟩
def slices_ContainsFunc_impl_CargoTank_impl_CargoTank__impl_TanksOk_1_D (n : Nat) (ar : List (A T)) : Option Bool := match ar with
  | [a0, .fn _ []] => obind (argV (T := T) 86 a0) fun s0 => slices_ContainsFunc_impl_CargoTank_impl_CargoTank__impl_TanksOk_1 n s0
  | _ => none
def slices_ContainsFunc_impl_CargoTank_impl_CargoTank__impl_TanksOk_1_ent (n : Nat) : Ent T := ⟨222, 20, [223], Bool, slices_ContainsFunc_impl_CargoTank_impl_CargoTank__impl_TanksOk_1_D n, slices_ContainsFunc_impl_CargoTank_impl_CargoTank__impl_TanksOk_1_enc⟩
def impl_TanksOk_D (n : Nat) (r0 : List (A T)) : Option Bool := ocons r0 fun a0 r1 => onil r1 (obind (argV (T := T) 86 a0) fun list0 => impl_TanksOk n list0)
def impl_TanksOk_ent (n : Nat) : Ent T := ⟨149, 21, [], Bool, impl_TanksOk_D n, impl_TanksOk_enc⟩
def impl_CargoTank_mayBurn_D (n : Nat) (r0 : List (A T)) : Option Bool := ocons r0 fun a0 r1 => onil r1 (obind (argV (T := T) 198 a0) fun t0 => impl_CargoTank_mayBurn n t0)
def impl_CargoTank_mayBurn_ent (n : Nat) : Ent T := ⟨151, 22, [], Bool, impl_CargoTank_mayBurn_D n, impl_CargoTank_mayBurn_enc⟩
def impl_leanOf_D (n : Nat) (r0 : List (A T)) : Option Int := ocons r0 fun a0 r1 => onil r1 (obind (argV (T := T) 86 a0) fun list0 => impl_leanOf n list0)
def impl_leanOf_ent (n : Nat) : Ent T := ⟨153, 23, [], Int, impl_leanOf_D n, impl_leanOf_enc⟩
def impl_size_D (n : Nat) (r0 : List (A T)) : Option Int := ocons r0 fun a0 r1 => onil r1 (obind (argV (T := T) 3 a0) fun n0 => impl_size n n0)
def impl_size_ent (n : Nat) : Ent T := ⟨152, 24, [], Int, impl_size_D n, impl_size_enc⟩
def impl_CargoTank_out_D (n : Nat) (r0 : List (A T)) : Option (List SCargoTank) := ocons r0 fun a0 r1 => ocons r1 fun a1 r2 => onil r2 (obind (argI (T := T) 198 a0) fun q0 => obind (argV (T := T) 3 a1) fun many1 => impl_CargoTank_out n q0.1 q0.2 many1)
def impl_CargoTank_out_ent (n : Nat) : Ent T := ⟨150, 25, [], List SCargoTank, impl_CargoTank_out_D n, impl_CargoTank_out_enc⟩
def impl_CargoStep_D (n : Nat) (r0 : List (A T)) : Option (List SCargoTank × Int) := ocons r0 fun a0 r1 => ocons r1 fun a1 r2 => ocons r2 fun a2 r3 => onil r3 (obind (argV (T := T) 86 a0) fun list0 => obind (argV (T := T) 90 a1) fun op1 => obind (argV (T := T) 3 a2) fun lean2 => impl_CargoStep n list0 op1 lean2)
def impl_CargoStep_ent (n : Nat) : Ent T := ⟨63, 26, [], List SCargoTank × Int, impl_CargoStep_D n, impl_CargoStep_enc⟩
def impl_own_int_D (n : Nat) (r0 : List (A T)) : Option (List Int) := ocons r0 fun a0 r1 => onil r1 (obind (argV (T := T) 24 a0) fun l0 => impl_own_int n l0)
def impl_own_int_ent (n : Nat) : Ent T := ⟨106, 27, [], List Int, impl_own_int_D n, impl_own_int_enc⟩
def impl_CargoRun_D (n : Nat) (r0 : List (A T)) : Option (List SCargoTank × List Int) := ocons r0 fun a0 r1 => ocons r1 fun a1 r2 => ocons r2 fun a2 r3 => onil r3 (obind (argV (T := T) 86 a0) fun list0 => obind (argV (T := T) 99 a1) fun ops1 => obind (argV (T := T) 3 a2) fun lean2 => impl_CargoRun n list0 ops1 lean2)
def impl_CargoRun_ent (n : Nat) : Ent T := ⟨70, 28, [], List SCargoTank × List Int, impl_CargoRun_D n, impl_CargoRun_enc⟩
def laws_eqCargoTank_D (n : Nat) (r0 : List (A T)) : Option Bool := ocons r0 fun a0 r1 => ocons r1 fun a1 r2 => onil r2 (obind (argV (T := T) 198 a0) fun a0 => obind (argV (T := T) 198 a1) fun b1 => laws_eqCargoTank n a0 b1)
def laws_eqCargoTank_ent (n : Nat) : Ent T := ⟨154, 29, [], Bool, laws_eqCargoTank_D n, laws_eqCargoTank_enc⟩
def laws_eqCargoTankS_D (n : Nat) (r0 : List (A T)) : Option Bool := ocons r0 fun a0 r1 => ocons r1 fun a1 r2 => onil r2 (obind (argV (T := T) 86 a0) fun a0 => obind (argV (T := T) 86 a1) fun b1 => laws_eqCargoTankS n a0 b1)
def laws_eqCargoTankS_ent (n : Nat) : Ent T := ⟨64, 30, [], Bool, laws_eqCargoTankS_D n, laws_eqCargoTankS_enc⟩
def laws_eqIntS_D (n : Nat) (r0 : List (A T)) : Option Bool := ocons r0 fun a0 r1 => ocons r1 fun a1 r2 => onil r2 (obind (argV (T := T) 24 a0) fun a0 => obind (argV (T := T) 24 a1) fun b1 => laws_eqIntS n a0 b1)
def laws_eqIntS_ent (n : Nat) : Ent T := ⟨19, 31, [], Bool, laws_eqIntS_D n, laws_eqIntS_enc⟩
def laws_eqCargoOp_D (n : Nat) (r0 : List (A T)) : Option Bool := ocons r0 fun a0 r1 => ocons r1 fun a1 r2 => onil r2 (obind (argV (T := T) 90 a0) fun a0 => obind (argV (T := T) 90 a1) fun b1 => laws_eqCargoOp n a0 b1)
def laws_eqCargoOp_ent (n : Nat) : Ent T := ⟨155, 32, [], Bool, laws_eqCargoOp_D n, laws_eqCargoOp_enc⟩
def laws_eqCargoOpS_D (n : Nat) (r0 : List (A T)) : Option Bool := ocons r0 fun a0 r1 => ocons r1 fun a1 r2 => onil r2 (obind (argV (T := T) 99 a0) fun a0 => obind (argV (T := T) 99 a1) fun b1 => laws_eqCargoOpS n a0 b1)
def laws_eqCargoOpS_ent (n : Nat) : Ent T := ⟨71, 33, [], Bool, laws_eqCargoOpS_D n, laws_eqCargoOpS_enc⟩
def laws_markCargoTankS_D (n : Nat) (r0 : List (A T)) : Option (Int × List SCargoTank) := ocons r0 fun a0 r1 => ocons r1 fun a1 r2 => onil r2 (obind (argV (T := T) 86 a0) fun a0 => obind (argV (T := T) 3 a1) fun k1 => laws_markCargoTankS n a0 k1)
def laws_markCargoTankS_ent (n : Nat) : Ent T := ⟨65, 34, [], Int × List SCargoTank, laws_markCargoTankS_D n, laws_markCargoTankS_enc⟩
def laws_markCargoOpS_D (n : Nat) (r0 : List (A T)) : Option (Int × List SCargoOp) := ocons r0 fun a0 r1 => ocons r1 fun a1 r2 => onil r2 (obind (argV (T := T) 99 a0) fun a0 => obind (argV (T := T) 3 a1) fun k1 => laws_markCargoOpS n a0 k1)
def laws_markCargoOpS_ent (n : Nat) : Ent T := ⟨72, 35, [], Int × List SCargoOp, laws_markCargoOpS_D n, laws_markCargoOpS_enc⟩
def laws_markIntS_D (n : Nat) (r0 : List (A T)) : Option (Int × List Int) := ocons r0 fun a0 r1 => ocons r1 fun a1 r2 => onil r2 (obind (argV (T := T) 24 a0) fun a0 => obind (argV (T := T) 3 a1) fun k1 => laws_markIntS n a0 k1)
def laws_markIntS_ent (n : Nat) : Ent T := ⟨22, 36, [], Int × List Int, laws_markIntS_D n, laws_markIntS_enc⟩
def laws_heldCargoTankS_D (n : Nat) (r0 : List (A T)) : Option Int := ocons r0 fun a0 r1 => ocons r1 fun a1 r2 => onil r2 (obind (argV (T := T) 86 a0) fun a0 => obind (argV (T := T) 3 a1) fun k1 => laws_heldCargoTankS n a0 k1)
def laws_heldCargoTankS_ent (n : Nat) : Ent T := ⟨66, 37, [], Int, laws_heldCargoTankS_D n, laws_heldCargoTankS_enc⟩
def laws_heldIntS_D (n : Nat) (r0 : List (A T)) : Option Int := ocons r0 fun a0 r1 => ocons r1 fun a1 r2 => onil r2 (obind (argV (T := T) 24 a0) fun a0 => obind (argV (T := T) 3 a1) fun k1 => laws_heldIntS n a0 k1)
def laws_heldIntS_ent (n : Nat) : Ent T := ⟨23, 38, [], Int, laws_heldIntS_D n, laws_heldIntS_enc⟩
def laws_FnExactCargoRun_D (n : Nat) (r0 : List (A T)) : Option Bool := ocons r0 fun a0 r1 => ocons r1 fun a1 r2 => ocons r2 fun a2 r3 => onil r3 (obind (argV (T := T) 82 a0) fun aList0 => obind (argV (T := T) 95 a1) fun aOps1 => obind (argV (T := T) 3 a2) fun aLean2 => laws_FnExactCargoRun n aList0 aOps1 aLean2)
def laws_FnExactCargoRun_ent (n : Nat) : Ent T := ⟨9, 39, [], Bool, laws_FnExactCargoRun_D n, laws_FnExactCargoRun_enc⟩
def ents (n : Nat) : List (Ent T) := [laws_szCargoTankS_ent n, laws_szCargoOpS_ent n, laws_toCargoTank_ent n, laws_toCargoTankS_ent n, laws_toCargoOp_ent n, laws_toCargoOpS_ent n, spec_l1In_ent n, spec_TanksOk_ent n, spec_l13Op_ent n, spec_l13In_ent n, spec_l13Burns_ent n, spec_l3Size_ent n, spec_l13Lean_ent n, spec_l13Out_ent n, spec_CargoStep_ent n, spec_CargoRun_ent n, impl_own_impl_CargoTank_ent n, impl_in_ent n, impl_TanksOk_1_ent n, slices_IndexFunc_impl_CargoTank_impl_CargoTank__impl_TanksOk_1_ent n, slices_ContainsFunc_impl_CargoTank_impl_CargoTank__impl_TanksOk_1_ent n, impl_TanksOk_ent n, impl_CargoTank_mayBurn_ent n, impl_leanOf_ent n, impl_size_ent n, impl_CargoTank_out_ent n, impl_CargoStep_ent n, impl_own_int_ent n, impl_CargoRun_ent n, laws_eqCargoTank_ent n, laws_eqCargoTankS_ent n, laws_eqIntS_ent n, laws_eqCargoOp_ent n, laws_eqCargoOpS_ent n, laws_markCargoTankS_ent n, laws_markCargoOpS_ent n, laws_markIntS_ent n, laws_heldCargoTankS_ent n, laws_heldIntS_ent n, laws_FnExactCargoRun_ent n]
abbrev Phi (n i : Nat) {R : Type} (f : Nat) (ar : List (A T)) (K : Res T → Option R) : Option R := PhiE (ents n) i f ar K
theorem mixed : Try.prog.follows .mixedOrders = true := by kernel_rfl
noncomputable def laws_szCargoTankS_code : Code := match Try.f59.body with | some c => c | none => .skip
def laws_szCargoTankS_ann : Ann := fun id => none
def laws_szCargoTankS_Ls (n : Nat) : Nat → Option (LSpec T) := fun id => none
theorem laws_szCargoTankS_tie (n : Nat) (a0 : List SCargoTank) (left1 : Int) : evF (T := T) (Phi n 0) (laws_szCargoTankS_Ls n) laws_szCargoTankS_ann n Try.f59 (sg 59) [vA T 82 a0, vA T 3 left1] laws_szCargoTankS_dec = laws_szCargoTankS n a0 left1 := by kernel_rfl
theorem laws_szCargoTankS_lo (n : Nat) : LoopsOk (T := T) (Phi n 0) (laws_szCargoTankS_Ls n) laws_szCargoTankS_ann n laws_szCargoTankS_code := loopsOk_all (cs := []) (by kernel_rfl) trivial
theorem laws_szCargoTankS_ok (n : Nat) : EntOk Try.prog (ents n) (laws_szCargoTankS_ent n) := by
  intro hs ar y hg h
  replace h : laws_szCargoTankS_D n ar = some y := h
  unfold laws_szCargoTankS_D at h
  replace h := ocons_some h
  obtain ⟨a0, r0, rfl, h⟩ := h
  replace h := ocons_some h
  obtain ⟨a1, r1, rfl, h⟩ := h
  replace h := onil_some h
  obtain ⟨rfl, h⟩ := h
  obtain ⟨a0, qh0, h⟩ := obind_some h
  obtain ⟨left1, qh1, h⟩ := obind_some h
  rw [argV_eq ok qh0, argV_eq ok qh1]
  exact call_of (phiE_nat _ _) hs ok mixed Try.func59 (c := laws_szCargoTankS_code) (by kernel_rfl) (laws_szCargoTankS_lo n) (by kernel_rfl) (by kernel_rfl) (by kernel_rfl) laws_szCargoTankS_de ((laws_szCargoTankS_tie n a0 left1).trans h)
noncomputable def laws_szCargoOpS_code : Code := match Try.f67.body with | some c => c | none => .skip
def laws_szCargoOpS_ann : Ann := fun id => none
def laws_szCargoOpS_Ls (n : Nat) : Nat → Option (LSpec T) := fun id => none
theorem laws_szCargoOpS_tie (n : Nat) (a0 : List SCargoOp) (left1 : Int) : evF (T := T) (Phi n 1) (laws_szCargoOpS_Ls n) laws_szCargoOpS_ann n Try.f67 (sg 67) [vA T 95 a0, vA T 3 left1] laws_szCargoOpS_dec = laws_szCargoOpS n a0 left1 := by kernel_rfl
theorem laws_szCargoOpS_lo (n : Nat) : LoopsOk (T := T) (Phi n 1) (laws_szCargoOpS_Ls n) laws_szCargoOpS_ann n laws_szCargoOpS_code := loopsOk_all (cs := []) (by kernel_rfl) trivial
theorem laws_szCargoOpS_ok (n : Nat) : EntOk Try.prog (ents n) (laws_szCargoOpS_ent n) := by
  intro hs ar y hg h
  replace h : laws_szCargoOpS_D n ar = some y := h
  unfold laws_szCargoOpS_D at h
  replace h := ocons_some h
  obtain ⟨a0, r0, rfl, h⟩ := h
  replace h := ocons_some h
  obtain ⟨a1, r1, rfl, h⟩ := h
  replace h := onil_some h
  obtain ⟨rfl, h⟩ := h
  obtain ⟨a0, qh0, h⟩ := obind_some h
  obtain ⟨left1, qh1, h⟩ := obind_some h
  rw [argV_eq ok qh0, argV_eq ok qh1]
  exact call_of (phiE_nat _ _) hs ok mixed Try.func67 (c := laws_szCargoOpS_code) (by kernel_rfl) (laws_szCargoOpS_lo n) (by kernel_rfl) (by kernel_rfl) (by kernel_rfl) laws_szCargoOpS_de ((laws_szCargoOpS_tie n a0 left1).trans h)
noncomputable def laws_toCargoTank_code : Code := match Try.f147.body with | some c => c | none => .skip
def laws_toCargoTank_ann : Ann := fun id => none
def laws_toCargoTank_Ls (n : Nat) : Nat → Option (LSpec T) := fun id => none
theorem laws_toCargoTank_tie (n : Nat) (a0 : SCargoTank) : evF (T := T) (Phi n 2) (laws_toCargoTank_Ls n) laws_toCargoTank_ann n Try.f147 (sg 147) [vA T 203 a0] laws_toCargoTank_dec = laws_toCargoTank n a0 := by kernel_rfl
theorem laws_toCargoTank_lo (n : Nat) : LoopsOk (T := T) (Phi n 2) (laws_toCargoTank_Ls n) laws_toCargoTank_ann n laws_toCargoTank_code := loopsOk_all (cs := []) (by kernel_rfl) trivial
theorem laws_toCargoTank_ok (n : Nat) : EntOk Try.prog (ents n) (laws_toCargoTank_ent n) := by
  intro hs ar y hg h
  replace h : laws_toCargoTank_D n ar = some y := h
  unfold laws_toCargoTank_D at h
  replace h := ocons_some h
  obtain ⟨a0, r0, rfl, h⟩ := h
  replace h := onil_some h
  obtain ⟨rfl, h⟩ := h
  obtain ⟨a0, qh0, h⟩ := obind_some h
  rw [argV_eq ok qh0]
  exact call_of (phiE_nat _ _) hs ok mixed Try.func147 (c := laws_toCargoTank_code) (by kernel_rfl) (laws_toCargoTank_lo n) (by kernel_rfl) (by kernel_rfl) (by kernel_rfl) laws_toCargoTank_de ((laws_toCargoTank_tie n a0).trans h)
noncomputable def laws_toCargoTankS_code : Code := match Try.f61.body with | some c => c | none => .skip
def laws_toCargoTankS_3_sv : List Sv := [.one (.arr 203), .one (.own 3000000 198 false), .one (.int .i64)]
def laws_toCargoTankS_3_so : List So := [.arr 198 false]
def laws_toCargoTankS_3_emb (c : List SCargoTank) (x : Int × List SCargoTank) : EVs T laws_toCargoTankS_3_sv × EOs T laws_toCargoTankS_3_so := ((c, (), x.1, ()), (x.2, ()))
def laws_toCargoTankS_3_prj (y : EVs T laws_toCargoTankS_3_sv × EOs T laws_toCargoTankS_3_so) : List SCargoTank × (Int × List SCargoTank) := ((y.1.1), (y.1.2.2.1, y.2.1))
def laws_toCargoTankS_3_b (n : Nat) {R : Type} (K : Ex → Sm.St T → Option R) (c : List SCargoTank) (x : Int × List SCargoTank) (J : (Int × List SCargoTank) → Option R) : Option R :=
  laws_toCargoTankS_L3 n (fun (y0 : List SCargoTank) => K (.exit 0) (stOf (T := T) [3] [3000000] [.one (.own 3000000 198 false)] [.arr 198 false] ((), ()) (y0, ()))) (fun z0 z1 => J (z0, z1)) c x.1 x.2
def laws_toCargoTankS_3_sp (n : Nat) : LSpec T := mkSpec T ⟨[((.reg 3), 3000000, 198)], [0, 3, 4], [3000000]⟩ laws_toCargoTankS_3_sv laws_toCargoTankS_3_so (List SCargoTank) (Int × List SCargoTank) laws_toCargoTankS_3_emb laws_toCargoTankS_3_prj (laws_toCargoTankS_3_b n)
noncomputable def laws_toCargoTankS_3_c : Code := ((loopCodes laws_toCargoTankS_code)[0]?).getD .skip
def laws_toCargoTankS_ann : Ann := fun id => bif Nat.beq id 3000003 then some ⟨[((.reg 3), 3000000, 198)], [3], [3000000]⟩ else none
def laws_toCargoTankS_Ls (n : Nat) : Nat → Option (LSpec T) := fun id => bif Nat.beq id 3 then some (laws_toCargoTankS_3_sp n) else none
theorem laws_toCargoTankS_3_le (n : Nat) : LoopEq (T := T) (Phi n 3) (laws_toCargoTankS_Ls n) laws_toCargoTankS_ann n laws_toCargoTankS_3_c (laws_toCargoTankS_3_sp n) := ⟨mkSpec_dec (fun y => rfl), fun c x => by kernel_rfl, fun K J c x => by kernel_rfl⟩
theorem laws_toCargoTankS_tie (n : Nat) (a0 : List SCargoTank) : evF (T := T) (Phi n 3) (laws_toCargoTankS_Ls n) laws_toCargoTankS_ann n Try.f61 (sg 61) [vA T 82 a0] laws_toCargoTankS_dec = laws_toCargoTankS n a0 := by kernel_rfl
theorem laws_toCargoTankS_lo (n : Nat) : LoopsOk (T := T) (Phi n 3) (laws_toCargoTankS_Ls n) laws_toCargoTankS_ann n laws_toCargoTankS_code := loopsOk_all (cs := [laws_toCargoTankS_3_c]) (by kernel_rfl) ⟨⟨_, by kernel_rfl, laws_toCargoTankS_3_le n⟩, trivial⟩
theorem laws_toCargoTankS_ok (n : Nat) : EntOk Try.prog (ents n) (laws_toCargoTankS_ent n) := by
  intro hs ar y hg h
  replace h : laws_toCargoTankS_D n ar = some y := h
  unfold laws_toCargoTankS_D at h
  replace h := ocons_some h
  obtain ⟨a0, r0, rfl, h⟩ := h
  replace h := onil_some h
  obtain ⟨rfl, h⟩ := h
  obtain ⟨a0, qh0, h⟩ := obind_some h
  rw [argV_eq ok qh0]
  exact call_of (phiE_nat _ _) hs ok mixed Try.func61 (c := laws_toCargoTankS_code) (by kernel_rfl) (laws_toCargoTankS_lo n) (by kernel_rfl) (by kernel_rfl) (by kernel_rfl) laws_toCargoTankS_de ((laws_toCargoTankS_tie n a0).trans h)
noncomputable def laws_toCargoOp_code : Code := match Try.f62.body with | some c => c | none => .skip
def laws_toCargoOp_ann : Ann := fun id => none
def laws_toCargoOp_Ls (n : Nat) : Nat → Option (LSpec T) := fun id => none
theorem laws_toCargoOp_tie (n : Nat) (a0 : SCargoOp) : evF (T := T) (Phi n 4) (laws_toCargoOp_Ls n) laws_toCargoOp_ann n Try.f62 (sg 62) [vA T 84 a0] laws_toCargoOp_dec = laws_toCargoOp n a0 := by kernel_rfl
theorem laws_toCargoOp_lo (n : Nat) : LoopsOk (T := T) (Phi n 4) (laws_toCargoOp_Ls n) laws_toCargoOp_ann n laws_toCargoOp_code := loopsOk_all (cs := []) (by kernel_rfl) trivial
theorem laws_toCargoOp_ok (n : Nat) : EntOk Try.prog (ents n) (laws_toCargoOp_ent n) := by
  intro hs ar y hg h
  replace h : laws_toCargoOp_D n ar = some y := h
  unfold laws_toCargoOp_D at h
  replace h := ocons_some h
  obtain ⟨a0, r0, rfl, h⟩ := h
  replace h := onil_some h
  obtain ⟨rfl, h⟩ := h
  obtain ⟨a0, qh0, h⟩ := obind_some h
  rw [argV_eq ok qh0]
  exact call_of (phiE_nat _ _) hs ok mixed Try.func62 (c := laws_toCargoOp_code) (by kernel_rfl) (laws_toCargoOp_lo n) (by kernel_rfl) (by kernel_rfl) (by kernel_rfl) laws_toCargoOp_de ((laws_toCargoOp_tie n a0).trans h)
noncomputable def laws_toCargoOpS_code : Code := match Try.f69.body with | some c => c | none => .skip
def laws_toCargoOpS_3_sv : List Sv := [.one (.arr 84), .one (.own 3000000 90 false), .one (.int .i64)]
def laws_toCargoOpS_3_so : List So := [.arr 90 false]
def laws_toCargoOpS_3_emb (c : List SCargoOp) (x : Int × List SCargoOp) : EVs T laws_toCargoOpS_3_sv × EOs T laws_toCargoOpS_3_so := ((c, (), x.1, ()), (x.2, ()))
def laws_toCargoOpS_3_prj (y : EVs T laws_toCargoOpS_3_sv × EOs T laws_toCargoOpS_3_so) : List SCargoOp × (Int × List SCargoOp) := ((y.1.1), (y.1.2.2.1, y.2.1))
def laws_toCargoOpS_3_b (n : Nat) {R : Type} (K : Ex → Sm.St T → Option R) (c : List SCargoOp) (x : Int × List SCargoOp) (J : (Int × List SCargoOp) → Option R) : Option R :=
  laws_toCargoOpS_L3 n (fun (y0 : List SCargoOp) => K (.exit 0) (stOf (T := T) [3] [3000000] [.one (.own 3000000 90 false)] [.arr 90 false] ((), ()) (y0, ()))) (fun z0 z1 => J (z0, z1)) c x.1 x.2
def laws_toCargoOpS_3_sp (n : Nat) : LSpec T := mkSpec T ⟨[((.reg 3), 3000000, 90)], [0, 3, 4], [3000000]⟩ laws_toCargoOpS_3_sv laws_toCargoOpS_3_so (List SCargoOp) (Int × List SCargoOp) laws_toCargoOpS_3_emb laws_toCargoOpS_3_prj (laws_toCargoOpS_3_b n)
noncomputable def laws_toCargoOpS_3_c : Code := ((loopCodes laws_toCargoOpS_code)[0]?).getD .skip
def laws_toCargoOpS_ann : Ann := fun id => bif Nat.beq id 3000003 then some ⟨[((.reg 3), 3000000, 90)], [3], [3000000]⟩ else none
def laws_toCargoOpS_Ls (n : Nat) : Nat → Option (LSpec T) := fun id => bif Nat.beq id 3 then some (laws_toCargoOpS_3_sp n) else none
theorem laws_toCargoOpS_3_le (n : Nat) : LoopEq (T := T) (Phi n 5) (laws_toCargoOpS_Ls n) laws_toCargoOpS_ann n laws_toCargoOpS_3_c (laws_toCargoOpS_3_sp n) := ⟨mkSpec_dec (fun y => rfl), fun c x => by kernel_rfl, fun K J c x => by kernel_rfl⟩
theorem laws_toCargoOpS_tie (n : Nat) (a0 : List SCargoOp) : evF (T := T) (Phi n 5) (laws_toCargoOpS_Ls n) laws_toCargoOpS_ann n Try.f69 (sg 69) [vA T 95 a0] laws_toCargoOpS_dec = laws_toCargoOpS n a0 := by kernel_rfl
theorem laws_toCargoOpS_lo (n : Nat) : LoopsOk (T := T) (Phi n 5) (laws_toCargoOpS_Ls n) laws_toCargoOpS_ann n laws_toCargoOpS_code := loopsOk_all (cs := [laws_toCargoOpS_3_c]) (by kernel_rfl) ⟨⟨_, by kernel_rfl, laws_toCargoOpS_3_le n⟩, trivial⟩
theorem laws_toCargoOpS_ok (n : Nat) : EntOk Try.prog (ents n) (laws_toCargoOpS_ent n) := by
  intro hs ar y hg h
  replace h : laws_toCargoOpS_D n ar = some y := h
  unfold laws_toCargoOpS_D at h
  replace h := ocons_some h
  obtain ⟨a0, r0, rfl, h⟩ := h
  replace h := onil_some h
  obtain ⟨rfl, h⟩ := h
  obtain ⟨a0, qh0, h⟩ := obind_some h
  rw [argV_eq ok qh0]
  exact call_of (phiE_nat _ _) hs ok mixed Try.func69 (c := laws_toCargoOpS_code) (by kernel_rfl) (laws_toCargoOpS_lo n) (by kernel_rfl) (by kernel_rfl) (by kernel_rfl) laws_toCargoOpS_de ((laws_toCargoOpS_tie n a0).trans h)
noncomputable def spec_l1In_code : Code := match Try.f101.body with | some c => c | none => .skip
def spec_l1In_ann : Ann := fun id => none
def spec_l1In_Ls (n : Nat) : Nat → Option (LSpec T) := fun id => none
theorem spec_l1In_tie (n : Nat) (x0 : Int) (a1 : Int) (b2 : Int) : evF (T := T) (Phi n 6) (spec_l1In_Ls n) spec_l1In_ann n Try.f101 (sg 101) [vA T 3 x0, vA T 3 a1, vA T 3 b2] spec_l1In_dec = spec_l1In n x0 a1 b2 := by kernel_rfl
theorem spec_l1In_lo (n : Nat) : LoopsOk (T := T) (Phi n 6) (spec_l1In_Ls n) spec_l1In_ann n spec_l1In_code := loopsOk_all (cs := []) (by kernel_rfl) trivial
theorem spec_l1In_ok (n : Nat) : EntOk Try.prog (ents n) (spec_l1In_ent n) := by
  intro hs ar y hg h
  replace h : spec_l1In_D n ar = some y := h
  unfold spec_l1In_D at h
  replace h := ocons_some h
  obtain ⟨a0, r0, rfl, h⟩ := h
  replace h := ocons_some h
  obtain ⟨a1, r1, rfl, h⟩ := h
  replace h := ocons_some h
  obtain ⟨a2, r2, rfl, h⟩ := h
  replace h := onil_some h
  obtain ⟨rfl, h⟩ := h
  obtain ⟨x0, qh0, h⟩ := obind_some h
  obtain ⟨a1, qh1, h⟩ := obind_some h
  obtain ⟨b2, qh2, h⟩ := obind_some h
  rw [argV_eq ok qh0, argV_eq ok qh1, argV_eq ok qh2]
  exact call_of (phiE_nat _ _) hs ok mixed Try.func101 (c := spec_l1In_code) (by kernel_rfl) (spec_l1In_lo n) (by kernel_rfl) (by kernel_rfl) (by kernel_rfl) spec_l1In_de ((spec_l1In_tie n x0 a1 b2).trans h)
noncomputable def spec_TanksOk_code : Code := match Try.f141.body with | some c => c | none => .skip
def spec_TanksOk_2_sv : List Sv := [.one (.arr 198), .one (.int .i64)]
def spec_TanksOk_2_so : List So := []
def spec_TanksOk_2_emb (c : List SCargoTank) (x : Int) : EVs T spec_TanksOk_2_sv × EOs T spec_TanksOk_2_so := ((c, x, ()), ())
def spec_TanksOk_2_prj (y : EVs T spec_TanksOk_2_sv × EOs T spec_TanksOk_2_so) : List SCargoTank × Int := ((y.1.1), (y.1.2.1))
def spec_TanksOk_2_b (n : Nat) {R : Type} (K : Ex → Sm.St T → Option R) (c : List SCargoTank) (x : Int) (J : Int → Option R) : Option R :=
  spec_TanksOk_L2 n (K (.exit 0) (stOf (T := T) [0] [] [.one (.arr 198)] [] (c, ()) ())) (fun (y0 : Bool) => K .ret (stOf (T := T) [2] [] [.one (.bool)] [] (y0, ()) ())) J c x
def spec_TanksOk_2_sp (n : Nat) : LSpec T := mkSpec T ⟨[], [0, 3], []⟩ spec_TanksOk_2_sv spec_TanksOk_2_so (List SCargoTank) (Int) spec_TanksOk_2_emb spec_TanksOk_2_prj (spec_TanksOk_2_b n)
noncomputable def spec_TanksOk_2_c : Code := ((loopCodes spec_TanksOk_code)[0]?).getD .skip
def spec_TanksOk_ann : Ann := fun id => bif Nat.beq id 3000002 then some ⟨[], [0], []⟩ else bif Nat.beq id 2000002 then some ⟨[], [2], []⟩ else none
def spec_TanksOk_Ls (n : Nat) : Nat → Option (LSpec T) := fun id => bif Nat.beq id 2 then some (spec_TanksOk_2_sp n) else none
theorem spec_TanksOk_2_le (n : Nat) : LoopEq (T := T) (Phi n 7) (spec_TanksOk_Ls n) spec_TanksOk_ann n spec_TanksOk_2_c (spec_TanksOk_2_sp n) := ⟨mkSpec_dec (fun y => rfl), fun c x => by kernel_rfl, fun K J c x => by kernel_rfl⟩
theorem spec_TanksOk_tie (n : Nat) (list0 : List SCargoTank) : evF (T := T) (Phi n 7) (spec_TanksOk_Ls n) spec_TanksOk_ann n Try.f141 (sg 141) [vA T 86 list0] spec_TanksOk_dec = spec_TanksOk n list0 := by kernel_rfl
theorem spec_TanksOk_lo (n : Nat) : LoopsOk (T := T) (Phi n 7) (spec_TanksOk_Ls n) spec_TanksOk_ann n spec_TanksOk_code := loopsOk_all (cs := [spec_TanksOk_2_c]) (by kernel_rfl) ⟨⟨_, by kernel_rfl, spec_TanksOk_2_le n⟩, trivial⟩
theorem spec_TanksOk_ok (n : Nat) : EntOk Try.prog (ents n) (spec_TanksOk_ent n) := by
  intro hs ar y hg h
  replace h : spec_TanksOk_D n ar = some y := h
  unfold spec_TanksOk_D at h
  replace h := ocons_some h
  obtain ⟨a0, r0, rfl, h⟩ := h
  replace h := onil_some h
  obtain ⟨rfl, h⟩ := h
  obtain ⟨list0, qh0, h⟩ := obind_some h
  rw [argV_eq ok qh0]
  exact call_of (phiE_nat _ _) hs ok mixed Try.func141 (c := spec_TanksOk_code) (by kernel_rfl) (spec_TanksOk_lo n) (by kernel_rfl) (by kernel_rfl) (by kernel_rfl) spec_TanksOk_de ((spec_TanksOk_tie n list0).trans h)
noncomputable def spec_l13Op_code : Code := match Try.f142.body with | some c => c | none => .skip
def spec_l13Op_ann : Ann := fun id => none
def spec_l13Op_Ls (n : Nat) : Nat → Option (LSpec T) := fun id => none
theorem spec_l13Op_tie (n : Nat) (list0 : List SCargoTank) (op1 : SCargoOp) : evF (T := T) (Phi n 8) (spec_l13Op_Ls n) spec_l13Op_ann n Try.f142 (sg 142) [vA T 86 list0, vA T 90 op1] spec_l13Op_dec = spec_l13Op n list0 op1 := by kernel_rfl
theorem spec_l13Op_lo (n : Nat) : LoopsOk (T := T) (Phi n 8) (spec_l13Op_Ls n) spec_l13Op_ann n spec_l13Op_code := loopsOk_all (cs := []) (by kernel_rfl) trivial
theorem spec_l13Op_ok (n : Nat) : EntOk Try.prog (ents n) (spec_l13Op_ent n) := by
  intro hs ar y hg h
  replace h : spec_l13Op_D n ar = some y := h
  unfold spec_l13Op_D at h
  replace h := ocons_some h
  obtain ⟨a0, r0, rfl, h⟩ := h
  replace h := ocons_some h
  obtain ⟨a1, r1, rfl, h⟩ := h
  replace h := onil_some h
  obtain ⟨rfl, h⟩ := h
  obtain ⟨list0, qh0, h⟩ := obind_some h
  obtain ⟨op1, qh1, h⟩ := obind_some h
  rw [argV_eq ok qh0, argV_eq ok qh1]
  exact call_of (phiE_nat _ _) hs ok mixed Try.func142 (c := spec_l13Op_code) (by kernel_rfl) (spec_l13Op_lo n) (by kernel_rfl) (by kernel_rfl) (by kernel_rfl) spec_l13Op_de ((spec_l13Op_tie n list0 op1).trans h)
noncomputable def spec_l13In_code : Code := match Try.f143.body with | some c => c | none => .skip
def spec_l13In_ann : Ann := fun id => none
def spec_l13In_Ls (n : Nat) : Nat → Option (LSpec T) := fun id => none
theorem spec_l13In_tie (n : Nat) (t0 : SCargoTank) (many1 : Int) : evF (T := T) (Phi n 9) (spec_l13In_Ls n) spec_l13In_ann n Try.f143 (sg 143) [vA T 198 t0, vA T 3 many1] spec_l13In_dec = spec_l13In n t0 many1 := by kernel_rfl
theorem spec_l13In_lo (n : Nat) : LoopsOk (T := T) (Phi n 9) (spec_l13In_Ls n) spec_l13In_ann n spec_l13In_code := loopsOk_all (cs := []) (by kernel_rfl) trivial
theorem spec_l13In_ok (n : Nat) : EntOk Try.prog (ents n) (spec_l13In_ent n) := by
  intro hs ar y hg h
  replace h : spec_l13In_D n ar = some y := h
  unfold spec_l13In_D at h
  replace h := ocons_some h
  obtain ⟨a0, r0, rfl, h⟩ := h
  replace h := ocons_some h
  obtain ⟨a1, r1, rfl, h⟩ := h
  replace h := onil_some h
  obtain ⟨rfl, h⟩ := h
  obtain ⟨t0, qh0, h⟩ := obind_some h
  obtain ⟨many1, qh1, h⟩ := obind_some h
  rw [argV_eq ok qh0, argV_eq ok qh1]
  exact call_of (phiE_nat _ _) hs ok mixed Try.func143 (c := spec_l13In_code) (by kernel_rfl) (spec_l13In_lo n) (by kernel_rfl) (by kernel_rfl) (by kernel_rfl) spec_l13In_de ((spec_l13In_tie n t0 many1).trans h)
noncomputable def spec_l13Burns_code : Code := match Try.f145.body with | some c => c | none => .skip
def spec_l13Burns_ann : Ann := fun id => none
def spec_l13Burns_Ls (n : Nat) : Nat → Option (LSpec T) := fun id => none
theorem spec_l13Burns_tie (n : Nat) (t0 : SCargoTank) : evF (T := T) (Phi n 10) (spec_l13Burns_Ls n) spec_l13Burns_ann n Try.f145 (sg 145) [vA T 198 t0] spec_l13Burns_dec = spec_l13Burns n t0 := by kernel_rfl
theorem spec_l13Burns_lo (n : Nat) : LoopsOk (T := T) (Phi n 10) (spec_l13Burns_Ls n) spec_l13Burns_ann n spec_l13Burns_code := loopsOk_all (cs := []) (by kernel_rfl) trivial
theorem spec_l13Burns_ok (n : Nat) : EntOk Try.prog (ents n) (spec_l13Burns_ent n) := by
  intro hs ar y hg h
  replace h : spec_l13Burns_D n ar = some y := h
  unfold spec_l13Burns_D at h
  replace h := ocons_some h
  obtain ⟨a0, r0, rfl, h⟩ := h
  replace h := onil_some h
  obtain ⟨rfl, h⟩ := h
  obtain ⟨t0, qh0, h⟩ := obind_some h
  rw [argV_eq ok qh0]
  exact call_of (phiE_nat _ _) hs ok mixed Try.func145 (c := spec_l13Burns_code) (by kernel_rfl) (spec_l13Burns_lo n) (by kernel_rfl) (by kernel_rfl) (by kernel_rfl) spec_l13Burns_de ((spec_l13Burns_tie n t0).trans h)
noncomputable def spec_l3Size_code : Code := match Try.f221.body with | some c => c | none => .skip
def spec_l3Size_ann : Ann := fun id => none
def spec_l3Size_Ls (n : Nat) : Nat → Option (LSpec T) := fun id => none
theorem spec_l3Size_tie (n : Nat) (x0 : Int) : evF (T := T) (Phi n 11) (spec_l3Size_Ls n) spec_l3Size_ann n Try.f221 (sg 221) [vA T 3 x0] spec_l3Size_dec = spec_l3Size n x0 := by kernel_rfl
theorem spec_l3Size_lo (n : Nat) : LoopsOk (T := T) (Phi n 11) (spec_l3Size_Ls n) spec_l3Size_ann n spec_l3Size_code := loopsOk_all (cs := []) (by kernel_rfl) trivial
theorem spec_l3Size_ok (n : Nat) : EntOk Try.prog (ents n) (spec_l3Size_ent n) := by
  intro hs ar y hg h
  replace h : spec_l3Size_D n ar = some y := h
  unfold spec_l3Size_D at h
  replace h := ocons_some h
  obtain ⟨a0, r0, rfl, h⟩ := h
  replace h := onil_some h
  obtain ⟨rfl, h⟩ := h
  obtain ⟨x0, qh0, h⟩ := obind_some h
  rw [argV_eq ok qh0]
  exact call_of (phiE_nat _ _) hs ok mixed Try.func221 (c := spec_l3Size_code) (by kernel_rfl) (spec_l3Size_lo n) (by kernel_rfl) (by kernel_rfl) (by kernel_rfl) spec_l3Size_de ((spec_l3Size_tie n x0).trans h)
noncomputable def spec_l13Lean_code : Code := match Try.f146.body with | some c => c | none => .skip
def spec_l13Lean_3_sv : List Sv := [.one (.arr 198), .one (.int .i64), .one (.int .i64)]
def spec_l13Lean_3_so : List So := []
def spec_l13Lean_3_emb (c : List SCargoTank) (x : Int × Int) : EVs T spec_l13Lean_3_sv × EOs T spec_l13Lean_3_so := ((c, x.1, x.2, ()), ())
def spec_l13Lean_3_prj (y : EVs T spec_l13Lean_3_sv × EOs T spec_l13Lean_3_so) : List SCargoTank × (Int × Int) := ((y.1.1), (y.1.2.1, y.1.2.2.1))
def spec_l13Lean_3_b (n : Nat) {R : Type} (K : Ex → Sm.St T → Option R) (c : List SCargoTank) (x : Int × Int) (J : (Int × Int) → Option R) : Option R :=
  spec_l13Lean_L3 n (fun (y0 : Int) => K (.exit 0) (stOf (T := T) [3] [] [.one (.int .i64)] [] (y0, ()) ())) (fun z0 z1 => J (z0, z1)) c x.1 x.2
def spec_l13Lean_3_sp (n : Nat) : LSpec T := mkSpec T ⟨[], [0, 3, 4], []⟩ spec_l13Lean_3_sv spec_l13Lean_3_so (List SCargoTank) (Int × Int) spec_l13Lean_3_emb spec_l13Lean_3_prj (spec_l13Lean_3_b n)
noncomputable def spec_l13Lean_3_c : Code := ((loopCodes spec_l13Lean_code)[0]?).getD .skip
def spec_l13Lean_ann : Ann := fun id => bif Nat.beq id 3000003 then some ⟨[], [3], []⟩ else none
def spec_l13Lean_Ls (n : Nat) : Nat → Option (LSpec T) := fun id => bif Nat.beq id 3 then some (spec_l13Lean_3_sp n) else none
theorem spec_l13Lean_3_le (n : Nat) : LoopEq (T := T) (Phi n 12) (spec_l13Lean_Ls n) spec_l13Lean_ann n spec_l13Lean_3_c (spec_l13Lean_3_sp n) := ⟨mkSpec_dec (fun y => rfl), fun c x => by kernel_rfl, fun K J c x => by kernel_rfl⟩
theorem spec_l13Lean_tie (n : Nat) (list0 : List SCargoTank) : evF (T := T) (Phi n 12) (spec_l13Lean_Ls n) spec_l13Lean_ann n Try.f146 (sg 146) [vA T 86 list0] spec_l13Lean_dec = spec_l13Lean n list0 := by kernel_rfl
theorem spec_l13Lean_lo (n : Nat) : LoopsOk (T := T) (Phi n 12) (spec_l13Lean_Ls n) spec_l13Lean_ann n spec_l13Lean_code := loopsOk_all (cs := [spec_l13Lean_3_c]) (by kernel_rfl) ⟨⟨_, by kernel_rfl, spec_l13Lean_3_le n⟩, trivial⟩
theorem spec_l13Lean_ok (n : Nat) : EntOk Try.prog (ents n) (spec_l13Lean_ent n) := by
  intro hs ar y hg h
  replace h : spec_l13Lean_D n ar = some y := h
  unfold spec_l13Lean_D at h
  replace h := ocons_some h
  obtain ⟨a0, r0, rfl, h⟩ := h
  replace h := onil_some h
  obtain ⟨rfl, h⟩ := h
  obtain ⟨list0, qh0, h⟩ := obind_some h
  rw [argV_eq ok qh0]
  exact call_of (phiE_nat _ _) hs ok mixed Try.func146 (c := spec_l13Lean_code) (by kernel_rfl) (spec_l13Lean_lo n) (by kernel_rfl) (by kernel_rfl) (by kernel_rfl) spec_l13Lean_de ((spec_l13Lean_tie n list0).trans h)
noncomputable def spec_l13Out_code : Code := match Try.f144.body with | some c => c | none => .skip
def spec_l13Out_ann : Ann := fun id => none
def spec_l13Out_Ls (n : Nat) : Nat → Option (LSpec T) := fun id => none
theorem spec_l13Out_tie (n : Nat) (t0 : SCargoTank) (many1 : Int) : evF (T := T) (Phi n 13) (spec_l13Out_Ls n) spec_l13Out_ann n Try.f144 (sg 144) [vA T 198 t0, vA T 3 many1] spec_l13Out_dec = spec_l13Out n t0 many1 := by kernel_rfl
theorem spec_l13Out_lo (n : Nat) : LoopsOk (T := T) (Phi n 13) (spec_l13Out_Ls n) spec_l13Out_ann n spec_l13Out_code := loopsOk_all (cs := []) (by kernel_rfl) trivial
theorem spec_l13Out_ok (n : Nat) : EntOk Try.prog (ents n) (spec_l13Out_ent n) := by
  intro hs ar y hg h
  replace h : spec_l13Out_D n ar = some y := h
  unfold spec_l13Out_D at h
  replace h := ocons_some h
  obtain ⟨a0, r0, rfl, h⟩ := h
  replace h := ocons_some h
  obtain ⟨a1, r1, rfl, h⟩ := h
  replace h := onil_some h
  obtain ⟨rfl, h⟩ := h
  obtain ⟨t0, qh0, h⟩ := obind_some h
  obtain ⟨many1, qh1, h⟩ := obind_some h
  rw [argV_eq ok qh0, argV_eq ok qh1]
  exact call_of (phiE_nat _ _) hs ok mixed Try.func144 (c := spec_l13Out_code) (by kernel_rfl) (spec_l13Out_lo n) (by kernel_rfl) (by kernel_rfl) (by kernel_rfl) spec_l13Out_de ((spec_l13Out_tie n t0 many1).trans h)
noncomputable def spec_CargoStep_code : Code := match Try.f60.body with | some c => c | none => .skip
def spec_CargoStep_21_sv : List Sv := [.one (.arr 198), .one (.int .i64), .one (.own 3000000 198 false), .one (.own 3000001 198 false), .one (.own 3000002 3 false), .one (.bool), .one (.bool), .one (.bool), .one (.int .i64)]
def spec_CargoStep_21_so : List So := [.arr 198 false, .arr 198 false, .arr 3 false]
def spec_CargoStep_21_emb (c : List SCargoTank × Int × List SCargoTank × List SCargoTank × List Int) (x : Bool × Bool × Bool × Int) : EVs T spec_CargoStep_21_sv × EOs T spec_CargoStep_21_so := ((c.1, c.2.1, (), (), (), x.1, x.2.1, x.2.2.1, x.2.2.2, ()), (c.2.2.1, c.2.2.2.1, c.2.2.2.2, ()))
def spec_CargoStep_21_prj (y : EVs T spec_CargoStep_21_sv × EOs T spec_CargoStep_21_so) : (List SCargoTank × Int × List SCargoTank × List SCargoTank × List Int) × (Bool × Bool × Bool × Int) := ((y.1.1, y.1.2.1, y.2.1, y.2.2.1, y.2.2.2.1), (y.1.2.2.2.2.2.1, y.1.2.2.2.2.2.2.1, y.1.2.2.2.2.2.2.2.1, y.1.2.2.2.2.2.2.2.2.1))
def spec_CargoStep_21_b (n : Nat) {R : Type} (K : Ex → Sm.St T → Option R) (c : List SCargoTank × Int × List SCargoTank × List SCargoTank × List Int) (x : Bool × Bool × Bool × Int) (J : (Bool × Bool × Bool × Int) → Option R) : Option R :=
  spec_CargoStep_L21 n (fun (y2 : Bool) (y3 : Bool) (y4 : Bool) => K (.exit 1) (stOf (T := T) [0, 2, 8, 9, 11, 12, 13] [3000000, 3000001] [.one (.arr 198), .one (.int .i64), .one (.own 3000000 198 false), .one (.own 3000001 198 false), .one (.bool), .one (.bool), .one (.bool)] [.arr 198 false, .arr 198 false] (c.1, c.2.1, (), (), y2, y3, y4, ()) (c.2.2.1, c.2.2.2.1, ()))) (fun z0 z1 z2 z3 => J (z0, z1, z2, z3)) c.1 c.2.1 x.1 x.2.1 x.2.2.1 x.2.2.2 c.2.2.1 c.2.2.2.1 c.2.2.2.2
def spec_CargoStep_21_sp (n : Nat) : LSpec T := mkSpec T ⟨[((.reg 8), 3000000, 198), ((.reg 9), 3000001, 198), ((.reg 10), 3000002, 3)], [0, 2, 8, 9, 10, 11, 12, 13, 14], [3000000, 3000001, 3000002]⟩ spec_CargoStep_21_sv spec_CargoStep_21_so (List SCargoTank × Int × List SCargoTank × List SCargoTank × List Int) (Bool × Bool × Bool × Int) spec_CargoStep_21_emb spec_CargoStep_21_prj (spec_CargoStep_21_b n)
noncomputable def spec_CargoStep_21_c : Code := ((loopCodes spec_CargoStep_code)[0]?).getD .skip
def spec_CargoStep_ann : Ann := fun id => bif Nat.beq id 4000021 then some ⟨[((.reg 8), 3000000, 198), ((.reg 9), 3000001, 198)], [0, 2, 8, 9, 11, 12, 13], [3000000, 3000001]⟩ else none
def spec_CargoStep_Ls (n : Nat) : Nat → Option (LSpec T) := fun id => bif Nat.beq id 21 then some (spec_CargoStep_21_sp n) else none
theorem spec_CargoStep_21_le (n : Nat) : LoopEq (T := T) (Phi n 14) (spec_CargoStep_Ls n) spec_CargoStep_ann n spec_CargoStep_21_c (spec_CargoStep_21_sp n) := ⟨mkSpec_dec (fun y => rfl), fun c x => by kernel_rfl, fun K J c x => by kernel_rfl⟩
theorem spec_CargoStep_tie (n : Nat) (list0 : List SCargoTank) (op1 : SCargoOp) (lean2 : Int) : evF (T := T) (Phi n 14) (spec_CargoStep_Ls n) spec_CargoStep_ann n Try.f60 (sg 60) [vA T 86 list0, vA T 90 op1, vA T 3 lean2] spec_CargoStep_dec = spec_CargoStep n list0 op1 lean2 := by kernel_rfl
theorem spec_CargoStep_lo (n : Nat) : LoopsOk (T := T) (Phi n 14) (spec_CargoStep_Ls n) spec_CargoStep_ann n spec_CargoStep_code := loopsOk_all (cs := [spec_CargoStep_21_c]) (by kernel_rfl) ⟨⟨_, by kernel_rfl, spec_CargoStep_21_le n⟩, trivial⟩
theorem spec_CargoStep_ok (n : Nat) : EntOk Try.prog (ents n) (spec_CargoStep_ent n) := by
  intro hs ar y hg h
  replace h : spec_CargoStep_D n ar = some y := h
  unfold spec_CargoStep_D at h
  replace h := ocons_some h
  obtain ⟨a0, r0, rfl, h⟩ := h
  replace h := ocons_some h
  obtain ⟨a1, r1, rfl, h⟩ := h
  replace h := ocons_some h
  obtain ⟨a2, r2, rfl, h⟩ := h
  replace h := onil_some h
  obtain ⟨rfl, h⟩ := h
  obtain ⟨list0, qh0, h⟩ := obind_some h
  obtain ⟨op1, qh1, h⟩ := obind_some h
  obtain ⟨lean2, qh2, h⟩ := obind_some h
  rw [argV_eq ok qh0, argV_eq ok qh1, argV_eq ok qh2]
  exact call_of (phiE_nat _ _) hs ok mixed Try.func60 (c := spec_CargoStep_code) (by kernel_rfl) (spec_CargoStep_lo n) (by kernel_rfl) (by kernel_rfl) (by kernel_rfl) spec_CargoStep_de ((spec_CargoStep_tie n list0 op1 lean2).trans h)
noncomputable def spec_CargoRun_code : Code := match Try.f68.body with | some c => c | none => .skip
def spec_CargoRun_4_sv : List Sv := [.one (.arr 90), .one (.int .i64), .one (.own 3000000 198 false), .one (.own 3000001 3 false), .one (.int .i64)]
def spec_CargoRun_4_so : List So := [.arr 198 false, .arr 3 false]
def spec_CargoRun_4_emb (c : List SCargoOp × Int) (x : Int × List SCargoTank × List Int) : EVs T spec_CargoRun_4_sv × EOs T spec_CargoRun_4_so := ((c.1, c.2, (), (), x.1, ()), (x.2.1, x.2.2, ()))
def spec_CargoRun_4_prj (y : EVs T spec_CargoRun_4_sv × EOs T spec_CargoRun_4_so) : (List SCargoOp × Int) × (Int × List SCargoTank × List Int) := ((y.1.1, y.1.2.1), (y.1.2.2.2.2.1, y.2.1, y.2.2.1))
def spec_CargoRun_4_b (n : Nat) {R : Type} (K : Ex → Sm.St T → Option R) (c : List SCargoOp × Int) (x : Int × List SCargoTank × List Int) (J : (Int × List SCargoTank × List Int) → Option R) : Option R :=
  spec_CargoRun_L4 n (fun (y0 : List SCargoTank) (y1 : List Int) => K (.exit 0) (stOf (T := T) [8, 9] [3000000, 3000001] [.one (.own 3000000 198 false), .one (.own 3000001 3 false)] [.arr 198 false, .arr 3 false] ((), (), ()) (y0, y1, ()))) (fun z0 z1 z2 => J (z0, z1, z2)) c.1 c.2 x.1 x.2.1 x.2.2
def spec_CargoRun_4_sp (n : Nat) : LSpec T := mkSpec T ⟨[((.reg 8), 3000000, 198), ((.reg 9), 3000001, 3)], [1, 2, 8, 9, 10], [3000000, 3000001]⟩ spec_CargoRun_4_sv spec_CargoRun_4_so (List SCargoOp × Int) (Int × List SCargoTank × List Int) spec_CargoRun_4_emb spec_CargoRun_4_prj (spec_CargoRun_4_b n)
noncomputable def spec_CargoRun_4_c : Code := ((loopCodes spec_CargoRun_code)[0]?).getD .skip
def spec_CargoRun_ann : Ann := fun id => bif Nat.beq id 3000004 then some ⟨[((.reg 8), 3000000, 198), ((.reg 9), 3000001, 3)], [8, 9], [3000000, 3000001]⟩ else none
def spec_CargoRun_Ls (n : Nat) : Nat → Option (LSpec T) := fun id => bif Nat.beq id 4 then some (spec_CargoRun_4_sp n) else none
theorem spec_CargoRun_4_le (n : Nat) : LoopEq (T := T) (Phi n 15) (spec_CargoRun_Ls n) spec_CargoRun_ann n spec_CargoRun_4_c (spec_CargoRun_4_sp n) := ⟨mkSpec_dec (fun y => rfl), fun c x => by kernel_rfl, fun K J c x => by kernel_rfl⟩
theorem spec_CargoRun_tie (n : Nat) (list0 : List SCargoTank) (ops1 : List SCargoOp) (lean2 : Int) : evF (T := T) (Phi n 15) (spec_CargoRun_Ls n) spec_CargoRun_ann n Try.f68 (sg 68) [vA T 86 list0, vA T 99 ops1, vA T 3 lean2] spec_CargoRun_dec = spec_CargoRun n list0 ops1 lean2 := by kernel_rfl
theorem spec_CargoRun_lo (n : Nat) : LoopsOk (T := T) (Phi n 15) (spec_CargoRun_Ls n) spec_CargoRun_ann n spec_CargoRun_code := loopsOk_all (cs := [spec_CargoRun_4_c]) (by kernel_rfl) ⟨⟨_, by kernel_rfl, spec_CargoRun_4_le n⟩, trivial⟩
theorem spec_CargoRun_ok (n : Nat) : EntOk Try.prog (ents n) (spec_CargoRun_ent n) := by
  intro hs ar y hg h
  replace h : spec_CargoRun_D n ar = some y := h
  unfold spec_CargoRun_D at h
  replace h := ocons_some h
  obtain ⟨a0, r0, rfl, h⟩ := h
  replace h := ocons_some h
  obtain ⟨a1, r1, rfl, h⟩ := h
  replace h := ocons_some h
  obtain ⟨a2, r2, rfl, h⟩ := h
  replace h := onil_some h
  obtain ⟨rfl, h⟩ := h
  obtain ⟨list0, qh0, h⟩ := obind_some h
  obtain ⟨ops1, qh1, h⟩ := obind_some h
  obtain ⟨lean2, qh2, h⟩ := obind_some h
  rw [argV_eq ok qh0, argV_eq ok qh1, argV_eq ok qh2]
  exact call_of (phiE_nat _ _) hs ok mixed Try.func68 (c := spec_CargoRun_code) (by kernel_rfl) (spec_CargoRun_lo n) (by kernel_rfl) (by kernel_rfl) (by kernel_rfl) spec_CargoRun_de ((spec_CargoRun_tie n list0 ops1 lean2).trans h)
noncomputable def impl_own_impl_CargoTank_code : Code := match Try.f148.body with | some c => c | none => .skip
def impl_own_impl_CargoTank_ann : Ann := fun id => none
def impl_own_impl_CargoTank_Ls (n : Nat) : Nat → Option (LSpec T) := fun id => none
theorem impl_own_impl_CargoTank_tie (n : Nat) (l0 : List SCargoTank) : evF (T := T) (Phi n 16) (impl_own_impl_CargoTank_Ls n) impl_own_impl_CargoTank_ann n Try.f148 (sg 148) [vA T 86 l0] impl_own_impl_CargoTank_dec = impl_own_impl_CargoTank n l0 := by kernel_rfl
theorem impl_own_impl_CargoTank_lo (n : Nat) : LoopsOk (T := T) (Phi n 16) (impl_own_impl_CargoTank_Ls n) impl_own_impl_CargoTank_ann n impl_own_impl_CargoTank_code := loopsOk_all (cs := []) (by kernel_rfl) trivial
theorem impl_own_impl_CargoTank_ok (n : Nat) : EntOk Try.prog (ents n) (impl_own_impl_CargoTank_ent n) := by
  intro hs ar y hg h
  replace h : impl_own_impl_CargoTank_D n ar = some y := h
  unfold impl_own_impl_CargoTank_D at h
  replace h := ocons_some h
  obtain ⟨a0, r0, rfl, h⟩ := h
  replace h := onil_some h
  obtain ⟨rfl, h⟩ := h
  obtain ⟨l0, qh0, h⟩ := obind_some h
  rw [argV_eq ok qh0]
  exact call_of (phiE_nat _ _) hs ok mixed Try.func148 (c := impl_own_impl_CargoTank_code) (by kernel_rfl) (impl_own_impl_CargoTank_lo n) (by kernel_rfl) (by kernel_rfl) (by kernel_rfl) impl_own_impl_CargoTank_de ((impl_own_impl_CargoTank_tie n l0).trans h)
noncomputable def impl_in_code : Code := match Try.f113.body with | some c => c | none => .skip
def impl_in_ann : Ann := fun id => none
def impl_in_Ls (n : Nat) : Nat → Option (LSpec T) := fun id => none
theorem impl_in_tie (n : Nat) (n0 : Int) (least1 : Int) (most2 : Int) : evF (T := T) (Phi n 17) (impl_in_Ls n) impl_in_ann n Try.f113 (sg 113) [vA T 3 n0, vA T 3 least1, vA T 3 most2] impl_in_dec = impl_in n n0 least1 most2 := by kernel_rfl
theorem impl_in_lo (n : Nat) : LoopsOk (T := T) (Phi n 17) (impl_in_Ls n) impl_in_ann n impl_in_code := loopsOk_all (cs := []) (by kernel_rfl) trivial
theorem impl_in_ok (n : Nat) : EntOk Try.prog (ents n) (impl_in_ent n) := by
  intro hs ar y hg h
  replace h : impl_in_D n ar = some y := h
  unfold impl_in_D at h
  replace h := ocons_some h
  obtain ⟨a0, r0, rfl, h⟩ := h
  replace h := ocons_some h
  obtain ⟨a1, r1, rfl, h⟩ := h
  replace h := ocons_some h
  obtain ⟨a2, r2, rfl, h⟩ := h
  replace h := onil_some h
  obtain ⟨rfl, h⟩ := h
  obtain ⟨n0, qh0, h⟩ := obind_some h
  obtain ⟨least1, qh1, h⟩ := obind_some h
  obtain ⟨most2, qh2, h⟩ := obind_some h
  rw [argV_eq ok qh0, argV_eq ok qh1, argV_eq ok qh2]
  exact call_of (phiE_nat _ _) hs ok mixed Try.func113 (c := impl_in_code) (by kernel_rfl) (impl_in_lo n) (by kernel_rfl) (by kernel_rfl) (by kernel_rfl) impl_in_de ((impl_in_tie n n0 least1 most2).trans h)
noncomputable def impl_TanksOk_1_code : Code := match Try.f223.body with | some c => c | none => .skip
def impl_TanksOk_1_ann : Ann := fun id => none
def impl_TanksOk_1_Ls (n : Nat) : Nat → Option (LSpec T) := fun id => none
theorem impl_TanksOk_1_tie (n : Nat) (t0 : SCargoTank) : evF (T := T) (Phi n 18) (impl_TanksOk_1_Ls n) impl_TanksOk_1_ann n Try.f223 (sg 223) [vA T 198 t0] impl_TanksOk_1_dec = impl_TanksOk_1 n t0 := by kernel_rfl
theorem impl_TanksOk_1_lo (n : Nat) : LoopsOk (T := T) (Phi n 18) (impl_TanksOk_1_Ls n) impl_TanksOk_1_ann n impl_TanksOk_1_code := loopsOk_all (cs := []) (by kernel_rfl) trivial
theorem impl_TanksOk_1_ok (n : Nat) : EntOk Try.prog (ents n) (impl_TanksOk_1_ent n) := by
  intro hs ar y hg h
  replace h : impl_TanksOk_1_D n ar = some y := h
  unfold impl_TanksOk_1_D at h
  replace h := ocons_some h
  obtain ⟨a0, r0, rfl, h⟩ := h
  replace h := onil_some h
  obtain ⟨rfl, h⟩ := h
  obtain ⟨t0, qh0, h⟩ := obind_some h
  rw [argV_eq ok qh0]
  exact call_of (phiE_nat _ _) hs ok mixed Try.func223 (c := impl_TanksOk_1_code) (by kernel_rfl) (impl_TanksOk_1_lo n) (by kernel_rfl) (by kernel_rfl) (by kernel_rfl) impl_TanksOk_1_de ((impl_TanksOk_1_tie n t0).trans h)
noncomputable def slices_IndexFunc_impl_CargoTank_impl_CargoTank__impl_TanksOk_1_code : Code := match Try.f251.body with | some c => c | none => .skip
def slices_IndexFunc_impl_CargoTank_impl_CargoTank__impl_TanksOk_1_2_sv : List Sv := [.one (.arr 198), .one (.fn 223 []), .one (.int .i64), .one (.int .i64)]
def slices_IndexFunc_impl_CargoTank_impl_CargoTank__impl_TanksOk_1_2_so : List So := []
def slices_IndexFunc_impl_CargoTank_impl_CargoTank__impl_TanksOk_1_2_emb (c : List SCargoTank × Int) (x : Int) : EVs T slices_IndexFunc_impl_CargoTank_impl_CargoTank__impl_TanksOk_1_2_sv × EOs T slices_IndexFunc_impl_CargoTank_impl_CargoTank__impl_TanksOk_1_2_so := ((c.1, (), c.2, x, ()), ())
def slices_IndexFunc_impl_CargoTank_impl_CargoTank__impl_TanksOk_1_2_prj (y : EVs T slices_IndexFunc_impl_CargoTank_impl_CargoTank__impl_TanksOk_1_2_sv × EOs T slices_IndexFunc_impl_CargoTank_impl_CargoTank__impl_TanksOk_1_2_so) : (List SCargoTank × Int) × Int := ((y.1.1, y.1.2.2.1), (y.1.2.2.2.1))
def slices_IndexFunc_impl_CargoTank_impl_CargoTank__impl_TanksOk_1_2_b (n : Nat) {R : Type} (K : Ex → Sm.St T → Option R) (c : List SCargoTank × Int) (x : Int) (J : Int → Option R) : Option R :=
  slices_IndexFunc_impl_CargoTank_impl_CargoTank__impl_TanksOk_1_L2 n (K (.exit 0) (stOf (T := T) [] [] [] [] () ())) (fun (y0 : Int) => K .ret (stOf (T := T) [4] [] [.one (.int .i64)] [] (y0, ()) ())) J c.1 c.2 x
def slices_IndexFunc_impl_CargoTank_impl_CargoTank__impl_TanksOk_1_2_sp (n : Nat) : LSpec T := mkSpec T ⟨[], [0, 1, 7, 8], []⟩ slices_IndexFunc_impl_CargoTank_impl_CargoTank__impl_TanksOk_1_2_sv slices_IndexFunc_impl_CargoTank_impl_CargoTank__impl_TanksOk_1_2_so (List SCargoTank × Int) (Int) slices_IndexFunc_impl_CargoTank_impl_CargoTank__impl_TanksOk_1_2_emb slices_IndexFunc_impl_CargoTank_impl_CargoTank__impl_TanksOk_1_2_prj (slices_IndexFunc_impl_CargoTank_impl_CargoTank__impl_TanksOk_1_2_b n)
noncomputable def slices_IndexFunc_impl_CargoTank_impl_CargoTank__impl_TanksOk_1_2_c : Code := ((loopCodes slices_IndexFunc_impl_CargoTank_impl_CargoTank__impl_TanksOk_1_code)[0]?).getD .skip
def slices_IndexFunc_impl_CargoTank_impl_CargoTank__impl_TanksOk_1_ann : Ann := fun id => bif Nat.beq id 3000002 then some ⟨[], [], []⟩ else bif Nat.beq id 2000002 then some ⟨[], [4], []⟩ else none
def slices_IndexFunc_impl_CargoTank_impl_CargoTank__impl_TanksOk_1_Ls (n : Nat) : Nat → Option (LSpec T) := fun id => bif Nat.beq id 2 then some (slices_IndexFunc_impl_CargoTank_impl_CargoTank__impl_TanksOk_1_2_sp n) else none
theorem slices_IndexFunc_impl_CargoTank_impl_CargoTank__impl_TanksOk_1_2_le (n : Nat) : LoopEq (T := T) (Phi n 19) (slices_IndexFunc_impl_CargoTank_impl_CargoTank__impl_TanksOk_1_Ls n) slices_IndexFunc_impl_CargoTank_impl_CargoTank__impl_TanksOk_1_ann n slices_IndexFunc_impl_CargoTank_impl_CargoTank__impl_TanksOk_1_2_c (slices_IndexFunc_impl_CargoTank_impl_CargoTank__impl_TanksOk_1_2_sp n) := ⟨mkSpec_dec (fun y => rfl), fun c x => by kernel_rfl, fun K J c x => by kernel_rfl⟩
theorem slices_IndexFunc_impl_CargoTank_impl_CargoTank__impl_TanksOk_1_tie (n : Nat) (s0 : List SCargoTank) : evF (T := T) (Phi n 19) (slices_IndexFunc_impl_CargoTank_impl_CargoTank__impl_TanksOk_1_Ls n) slices_IndexFunc_impl_CargoTank_impl_CargoTank__impl_TanksOk_1_ann n Try.f251 (sg 251) [vA T 86 s0, .fn 223 []] slices_IndexFunc_impl_CargoTank_impl_CargoTank__impl_TanksOk_1_dec = slices_IndexFunc_impl_CargoTank_impl_CargoTank__impl_TanksOk_1 n s0 := by kernel_rfl
theorem slices_IndexFunc_impl_CargoTank_impl_CargoTank__impl_TanksOk_1_lo (n : Nat) : LoopsOk (T := T) (Phi n 19) (slices_IndexFunc_impl_CargoTank_impl_CargoTank__impl_TanksOk_1_Ls n) slices_IndexFunc_impl_CargoTank_impl_CargoTank__impl_TanksOk_1_ann n slices_IndexFunc_impl_CargoTank_impl_CargoTank__impl_TanksOk_1_code := loopsOk_all (cs := [slices_IndexFunc_impl_CargoTank_impl_CargoTank__impl_TanksOk_1_2_c]) (by kernel_rfl) ⟨⟨_, by kernel_rfl, slices_IndexFunc_impl_CargoTank_impl_CargoTank__impl_TanksOk_1_2_le n⟩, trivial⟩
theorem slices_IndexFunc_impl_CargoTank_impl_CargoTank__impl_TanksOk_1_ok (n : Nat) : EntOk Try.prog (ents n) (slices_IndexFunc_impl_CargoTank_impl_CargoTank__impl_TanksOk_1_ent n) := by
  intro hs ar y hg h
  replace h : slices_IndexFunc_impl_CargoTank_impl_CargoTank__impl_TanksOk_1_D n ar = some y := h
  unfold slices_IndexFunc_impl_CargoTank_impl_CargoTank__impl_TanksOk_1_D at h
  split at h
  · obtain ⟨s0, qh0, h⟩ := obind_some h
    rw [argV_eq ok qh0] at hg ⊢
    cases (show [_] = [223] from natsEq_eq hg)
    exact call_of (phiE_nat _ _) hs ok mixed Try.func251 (c := slices_IndexFunc_impl_CargoTank_impl_CargoTank__impl_TanksOk_1_code) (by kernel_rfl) (slices_IndexFunc_impl_CargoTank_impl_CargoTank__impl_TanksOk_1_lo n) (by kernel_rfl) (by kernel_rfl) (by kernel_rfl) slices_IndexFunc_impl_CargoTank_impl_CargoTank__impl_TanksOk_1_de ((slices_IndexFunc_impl_CargoTank_impl_CargoTank__impl_TanksOk_1_tie n s0).trans h)
  · cases h
noncomputable def slices_ContainsFunc_impl_CargoTank_impl_CargoTank__impl_TanksOk_1_code : Code := match Try.f222.body with | some c => c | none => .skip
def slices_ContainsFunc_impl_CargoTank_impl_CargoTank__impl_TanksOk_1_ann : Ann := fun id => none
def slices_ContainsFunc_impl_CargoTank_impl_CargoTank__impl_TanksOk_1_Ls (n : Nat) : Nat → Option (LSpec T) := fun id => none
theorem slices_ContainsFunc_impl_CargoTank_impl_CargoTank__impl_TanksOk_1_tie (n : Nat) (s0 : List SCargoTank) : evF (T := T) (Phi n 20) (slices_ContainsFunc_impl_CargoTank_impl_CargoTank__impl_TanksOk_1_Ls n) slices_ContainsFunc_impl_CargoTank_impl_CargoTank__impl_TanksOk_1_ann n Try.f222 (sg 222) [vA T 86 s0, .fn 223 []] slices_ContainsFunc_impl_CargoTank_impl_CargoTank__impl_TanksOk_1_dec = slices_ContainsFunc_impl_CargoTank_impl_CargoTank__impl_TanksOk_1 n s0 := by kernel_rfl
theorem slices_ContainsFunc_impl_CargoTank_impl_CargoTank__impl_TanksOk_1_lo (n : Nat) : LoopsOk (T := T) (Phi n 20) (slices_ContainsFunc_impl_CargoTank_impl_CargoTank__impl_TanksOk_1_Ls n) slices_ContainsFunc_impl_CargoTank_impl_CargoTank__impl_TanksOk_1_ann n slices_ContainsFunc_impl_CargoTank_impl_CargoTank__impl_TanksOk_1_code := loopsOk_all (cs := []) (by kernel_rfl) trivial
theorem slices_ContainsFunc_impl_CargoTank_impl_CargoTank__impl_TanksOk_1_ok (n : Nat) : EntOk Try.prog (ents n) (slices_ContainsFunc_impl_CargoTank_impl_CargoTank__impl_TanksOk_1_ent n) := by
  intro hs ar y hg h
  replace h : slices_ContainsFunc_impl_CargoTank_impl_CargoTank__impl_TanksOk_1_D n ar = some y := h
  unfold slices_ContainsFunc_impl_CargoTank_impl_CargoTank__impl_TanksOk_1_D at h
  split at h
  · obtain ⟨s0, qh0, h⟩ := obind_some h
    rw [argV_eq ok qh0] at hg ⊢
    cases (show [_] = [223] from natsEq_eq hg)
    exact call_of (phiE_nat _ _) hs ok mixed Try.func222 (c := slices_ContainsFunc_impl_CargoTank_impl_CargoTank__impl_TanksOk_1_code) (by kernel_rfl) (slices_ContainsFunc_impl_CargoTank_impl_CargoTank__impl_TanksOk_1_lo n) (by kernel_rfl) (by kernel_rfl) (by kernel_rfl) slices_ContainsFunc_impl_CargoTank_impl_CargoTank__impl_TanksOk_1_de ((slices_ContainsFunc_impl_CargoTank_impl_CargoTank__impl_TanksOk_1_tie n s0).trans h)
  · cases h
noncomputable def impl_TanksOk_code : Code := match Try.f149.body with | some c => c | none => .skip
def impl_TanksOk_ann : Ann := fun id => none
def impl_TanksOk_Ls (n : Nat) : Nat → Option (LSpec T) := fun id => none
theorem impl_TanksOk_tie (n : Nat) (list0 : List SCargoTank) : evF (T := T) (Phi n 21) (impl_TanksOk_Ls n) impl_TanksOk_ann n Try.f149 (sg 149) [vA T 86 list0] impl_TanksOk_dec = impl_TanksOk n list0 := by kernel_rfl
theorem impl_TanksOk_lo (n : Nat) : LoopsOk (T := T) (Phi n 21) (impl_TanksOk_Ls n) impl_TanksOk_ann n impl_TanksOk_code := loopsOk_all (cs := []) (by kernel_rfl) trivial
theorem impl_TanksOk_ok (n : Nat) : EntOk Try.prog (ents n) (impl_TanksOk_ent n) := by
  intro hs ar y hg h
  replace h : impl_TanksOk_D n ar = some y := h
  unfold impl_TanksOk_D at h
  replace h := ocons_some h
  obtain ⟨a0, r0, rfl, h⟩ := h
  replace h := onil_some h
  obtain ⟨rfl, h⟩ := h
  obtain ⟨list0, qh0, h⟩ := obind_some h
  rw [argV_eq ok qh0]
  exact call_of (phiE_nat _ _) hs ok mixed Try.func149 (c := impl_TanksOk_code) (by kernel_rfl) (impl_TanksOk_lo n) (by kernel_rfl) (by kernel_rfl) (by kernel_rfl) impl_TanksOk_de ((impl_TanksOk_tie n list0).trans h)
noncomputable def impl_CargoTank_mayBurn_code : Code := match Try.f151.body with | some c => c | none => .skip
def impl_CargoTank_mayBurn_ann : Ann := fun id => none
def impl_CargoTank_mayBurn_Ls (n : Nat) : Nat → Option (LSpec T) := fun id => none
theorem impl_CargoTank_mayBurn_tie (n : Nat) (t0 : SCargoTank) : evF (T := T) (Phi n 22) (impl_CargoTank_mayBurn_Ls n) impl_CargoTank_mayBurn_ann n Try.f151 (sg 151) [vA T 198 t0] impl_CargoTank_mayBurn_dec = impl_CargoTank_mayBurn n t0 := by kernel_rfl
theorem impl_CargoTank_mayBurn_lo (n : Nat) : LoopsOk (T := T) (Phi n 22) (impl_CargoTank_mayBurn_Ls n) impl_CargoTank_mayBurn_ann n impl_CargoTank_mayBurn_code := loopsOk_all (cs := []) (by kernel_rfl) trivial
theorem impl_CargoTank_mayBurn_ok (n : Nat) : EntOk Try.prog (ents n) (impl_CargoTank_mayBurn_ent n) := by
  intro hs ar y hg h
  replace h : impl_CargoTank_mayBurn_D n ar = some y := h
  unfold impl_CargoTank_mayBurn_D at h
  replace h := ocons_some h
  obtain ⟨a0, r0, rfl, h⟩ := h
  replace h := onil_some h
  obtain ⟨rfl, h⟩ := h
  obtain ⟨t0, qh0, h⟩ := obind_some h
  rw [argV_eq ok qh0]
  exact call_of (phiE_nat _ _) hs ok mixed Try.func151 (c := impl_CargoTank_mayBurn_code) (by kernel_rfl) (impl_CargoTank_mayBurn_lo n) (by kernel_rfl) (by kernel_rfl) (by kernel_rfl) impl_CargoTank_mayBurn_de ((impl_CargoTank_mayBurn_tie n t0).trans h)
noncomputable def impl_leanOf_code : Code := match Try.f153.body with | some c => c | none => .skip
def impl_leanOf_3_sv : List Sv := [.one (.int .i64), .one (.arr 198), .one (.int .i64), .one (.int .i64)]
def impl_leanOf_3_so : List So := []
def impl_leanOf_3_emb (c : List SCargoTank × Int) (x : Int × Int) : EVs T impl_leanOf_3_sv × EOs T impl_leanOf_3_so := ((x.1, c.1, c.2, x.2, ()), ())
def impl_leanOf_3_prj (y : EVs T impl_leanOf_3_sv × EOs T impl_leanOf_3_so) : (List SCargoTank × Int) × (Int × Int) := ((y.1.2.1, y.1.2.2.1), (y.1.1, y.1.2.2.2.1))
def impl_leanOf_3_b (n : Nat) {R : Type} (K : Ex → Sm.St T → Option R) (c : List SCargoTank × Int) (x : Int × Int) (J : (Int × Int) → Option R) : Option R :=
  impl_leanOf_L3 n (fun (y0 : Int) => K (.exit 0) (stOf (T := T) [3] [] [.one (.int .i64)] [] (y0, ()) ())) (fun z0 z1 => J (z0, z1)) x.1 c.1 c.2 x.2
def impl_leanOf_3_sp (n : Nat) : LSpec T := mkSpec T ⟨[], [3, 6, 7, 8], []⟩ impl_leanOf_3_sv impl_leanOf_3_so (List SCargoTank × Int) (Int × Int) impl_leanOf_3_emb impl_leanOf_3_prj (impl_leanOf_3_b n)
noncomputable def impl_leanOf_3_c : Code := ((loopCodes impl_leanOf_code)[0]?).getD .skip
def impl_leanOf_ann : Ann := fun id => bif Nat.beq id 3000003 then some ⟨[], [3], []⟩ else none
def impl_leanOf_Ls (n : Nat) : Nat → Option (LSpec T) := fun id => bif Nat.beq id 3 then some (impl_leanOf_3_sp n) else none
theorem impl_leanOf_3_le (n : Nat) : LoopEq (T := T) (Phi n 23) (impl_leanOf_Ls n) impl_leanOf_ann n impl_leanOf_3_c (impl_leanOf_3_sp n) := ⟨mkSpec_dec (fun y => rfl), fun c x => by kernel_rfl, fun K J c x => by kernel_rfl⟩
theorem impl_leanOf_tie (n : Nat) (list0 : List SCargoTank) : evF (T := T) (Phi n 23) (impl_leanOf_Ls n) impl_leanOf_ann n Try.f153 (sg 153) [vA T 86 list0] impl_leanOf_dec = impl_leanOf n list0 := by kernel_rfl
theorem impl_leanOf_lo (n : Nat) : LoopsOk (T := T) (Phi n 23) (impl_leanOf_Ls n) impl_leanOf_ann n impl_leanOf_code := loopsOk_all (cs := [impl_leanOf_3_c]) (by kernel_rfl) ⟨⟨_, by kernel_rfl, impl_leanOf_3_le n⟩, trivial⟩
theorem impl_leanOf_ok (n : Nat) : EntOk Try.prog (ents n) (impl_leanOf_ent n) := by
  intro hs ar y hg h
  replace h : impl_leanOf_D n ar = some y := h
  unfold impl_leanOf_D at h
  replace h := ocons_some h
  obtain ⟨a0, r0, rfl, h⟩ := h
  replace h := onil_some h
  obtain ⟨rfl, h⟩ := h
  obtain ⟨list0, qh0, h⟩ := obind_some h
  rw [argV_eq ok qh0]
  exact call_of (phiE_nat _ _) hs ok mixed Try.func153 (c := impl_leanOf_code) (by kernel_rfl) (impl_leanOf_lo n) (by kernel_rfl) (by kernel_rfl) (by kernel_rfl) impl_leanOf_de ((impl_leanOf_tie n list0).trans h)
noncomputable def impl_size_code : Code := match Try.f152.body with | some c => c | none => .skip
def impl_size_ann : Ann := fun id => none
def impl_size_Ls (n : Nat) : Nat → Option (LSpec T) := fun id => none
theorem impl_size_tie (n : Nat) (n0 : Int) : evF (T := T) (Phi n 24) (impl_size_Ls n) impl_size_ann n Try.f152 (sg 152) [vA T 3 n0] impl_size_dec = impl_size n n0 := by kernel_rfl
theorem impl_size_lo (n : Nat) : LoopsOk (T := T) (Phi n 24) (impl_size_Ls n) impl_size_ann n impl_size_code := loopsOk_all (cs := []) (by kernel_rfl) trivial
theorem impl_size_ok (n : Nat) : EntOk Try.prog (ents n) (impl_size_ent n) := by
  intro hs ar y hg h
  replace h : impl_size_D n ar = some y := h
  unfold impl_size_D at h
  replace h := ocons_some h
  obtain ⟨a0, r0, rfl, h⟩ := h
  replace h := onil_some h
  obtain ⟨rfl, h⟩ := h
  obtain ⟨n0, qh0, h⟩ := obind_some h
  rw [argV_eq ok qh0]
  exact call_of (phiE_nat _ _) hs ok mixed Try.func152 (c := impl_size_code) (by kernel_rfl) (impl_size_lo n) (by kernel_rfl) (by kernel_rfl) (by kernel_rfl) impl_size_de ((impl_size_tie n n0).trans h)
noncomputable def impl_CargoTank_out_code : Code := match Try.f150.body with | some c => c | none => .skip
def impl_CargoTank_out_ann : Ann := fun id => none
def impl_CargoTank_out_Ls (n : Nat) : Nat → Option (LSpec T) := fun id => none
theorem impl_CargoTank_out_tie (n : Nat) (t0 : List SCargoTank) (t0_i : Nat) (many1 : Int) : evF (T := T) (Phi n 25) (impl_CargoTank_out_Ls n) impl_CargoTank_out_ann n Try.f150 (sg 150) [.pix 198 t0 t0_i, vA T 3 many1] impl_CargoTank_out_dec = impl_CargoTank_out n t0 t0_i many1 := by kernel_rfl
theorem impl_CargoTank_out_lo (n : Nat) : LoopsOk (T := T) (Phi n 25) (impl_CargoTank_out_Ls n) impl_CargoTank_out_ann n impl_CargoTank_out_code := loopsOk_all (cs := []) (by kernel_rfl) trivial
theorem impl_CargoTank_out_ok (n : Nat) : EntOk Try.prog (ents n) (impl_CargoTank_out_ent n) := by
  intro hs ar y hg h
  replace h : impl_CargoTank_out_D n ar = some y := h
  unfold impl_CargoTank_out_D at h
  replace h := ocons_some h
  obtain ⟨a0, r0, rfl, h⟩ := h
  replace h := ocons_some h
  obtain ⟨a1, r1, rfl, h⟩ := h
  replace h := onil_some h
  obtain ⟨rfl, h⟩ := h
  obtain ⟨q0, qh0, h⟩ := obind_some h
  obtain ⟨many1, qh2, h⟩ := obind_some h
  rw [argI_eq qh0, argV_eq ok qh2]
  exact call_of (phiE_nat _ _) hs ok mixed Try.func150 (c := impl_CargoTank_out_code) (by kernel_rfl) (impl_CargoTank_out_lo n) (by kernel_rfl) (by kernel_rfl) (by kernel_rfl) impl_CargoTank_out_de ((impl_CargoTank_out_tie n (q0.1) (q0.2) many1).trans h)
noncomputable def impl_CargoStep_code : Code := match Try.f63.body with | some c => c | none => .skip
def impl_CargoStep_ann : Ann := fun id => none
def impl_CargoStep_Ls (n : Nat) : Nat → Option (LSpec T) := fun id => none
theorem impl_CargoStep_tie (n : Nat) (list0 : List SCargoTank) (op1 : SCargoOp) (lean2 : Int) : evF (T := T) (Phi n 26) (impl_CargoStep_Ls n) impl_CargoStep_ann n Try.f63 (sg 63) [vA T 86 list0, vA T 90 op1, vA T 3 lean2] impl_CargoStep_dec = impl_CargoStep n list0 op1 lean2 := by kernel_rfl
theorem impl_CargoStep_lo (n : Nat) : LoopsOk (T := T) (Phi n 26) (impl_CargoStep_Ls n) impl_CargoStep_ann n impl_CargoStep_code := loopsOk_all (cs := []) (by kernel_rfl) trivial
theorem impl_CargoStep_ok (n : Nat) : EntOk Try.prog (ents n) (impl_CargoStep_ent n) := by
  intro hs ar y hg h
  replace h : impl_CargoStep_D n ar = some y := h
  unfold impl_CargoStep_D at h
  replace h := ocons_some h
  obtain ⟨a0, r0, rfl, h⟩ := h
  replace h := ocons_some h
  obtain ⟨a1, r1, rfl, h⟩ := h
  replace h := ocons_some h
  obtain ⟨a2, r2, rfl, h⟩ := h
  replace h := onil_some h
  obtain ⟨rfl, h⟩ := h
  obtain ⟨list0, qh0, h⟩ := obind_some h
  obtain ⟨op1, qh1, h⟩ := obind_some h
  obtain ⟨lean2, qh2, h⟩ := obind_some h
  rw [argV_eq ok qh0, argV_eq ok qh1, argV_eq ok qh2]
  exact call_of (phiE_nat _ _) hs ok mixed Try.func63 (c := impl_CargoStep_code) (by kernel_rfl) (impl_CargoStep_lo n) (by kernel_rfl) (by kernel_rfl) (by kernel_rfl) impl_CargoStep_de ((impl_CargoStep_tie n list0 op1 lean2).trans h)
noncomputable def impl_own_int_code : Code := match Try.f106.body with | some c => c | none => .skip
def impl_own_int_ann : Ann := fun id => none
def impl_own_int_Ls (n : Nat) : Nat → Option (LSpec T) := fun id => none
theorem impl_own_int_tie (n : Nat) (l0 : List Int) : evF (T := T) (Phi n 27) (impl_own_int_Ls n) impl_own_int_ann n Try.f106 (sg 106) [vA T 24 l0] impl_own_int_dec = impl_own_int n l0 := by kernel_rfl
theorem impl_own_int_lo (n : Nat) : LoopsOk (T := T) (Phi n 27) (impl_own_int_Ls n) impl_own_int_ann n impl_own_int_code := loopsOk_all (cs := []) (by kernel_rfl) trivial
theorem impl_own_int_ok (n : Nat) : EntOk Try.prog (ents n) (impl_own_int_ent n) := by
  intro hs ar y hg h
  replace h : impl_own_int_D n ar = some y := h
  unfold impl_own_int_D at h
  replace h := ocons_some h
  obtain ⟨a0, r0, rfl, h⟩ := h
  replace h := onil_some h
  obtain ⟨rfl, h⟩ := h
  obtain ⟨l0, qh0, h⟩ := obind_some h
  rw [argV_eq ok qh0]
  exact call_of (phiE_nat _ _) hs ok mixed Try.func106 (c := impl_own_int_code) (by kernel_rfl) (impl_own_int_lo n) (by kernel_rfl) (by kernel_rfl) (by kernel_rfl) impl_own_int_de ((impl_own_int_tie n l0).trans h)
noncomputable def impl_CargoRun_code : Code := match Try.f70.body with | some c => c | none => .skip
def impl_CargoRun_6_sv : List Sv := [.one (.int .i64), .one (.own 3000000 198 false), .one (.own 3000001 3 false), .one (.arr 90), .one (.int .i64), .one (.int .i64)]
def impl_CargoRun_6_so : List So := [.arr 198 false, .arr 3 false]
def impl_CargoRun_6_emb (c : Int × List SCargoOp × Int) (x : Int × List SCargoTank × List Int) : EVs T impl_CargoRun_6_sv × EOs T impl_CargoRun_6_so := ((c.1, (), (), c.2.1, c.2.2, x.1, ()), (x.2.1, x.2.2, ()))
def impl_CargoRun_6_prj (y : EVs T impl_CargoRun_6_sv × EOs T impl_CargoRun_6_so) : (Int × List SCargoOp × Int) × (Int × List SCargoTank × List Int) := ((y.1.1, y.1.2.2.2.1, y.1.2.2.2.2.1), (y.1.2.2.2.2.2.1, y.2.1, y.2.2.1))
def impl_CargoRun_6_b (n : Nat) {R : Type} (K : Ex → Sm.St T → Option R) (c : Int × List SCargoOp × Int) (x : Int × List SCargoTank × List Int) (J : (Int × List SCargoTank × List Int) → Option R) : Option R :=
  impl_CargoRun_L6 n (fun (y0 : List SCargoTank) (y1 : List Int) => K (.exit 0) (stOf (T := T) [8, 9] [3000000, 3000001] [.one (.own 3000000 198 false), .one (.own 3000001 3 false)] [.arr 198 false, .arr 3 false] ((), (), ()) (y0, y1, ()))) (fun z0 z1 z2 => J (z0, z1, z2)) c.1 c.2.1 c.2.2 x.1 x.2.1 x.2.2
def impl_CargoRun_6_sp (n : Nat) : LSpec T := mkSpec T ⟨[((.reg 8), 3000000, 198), ((.reg 9), 3000001, 3)], [2, 8, 9, 19, 20, 21], [3000000, 3000001]⟩ impl_CargoRun_6_sv impl_CargoRun_6_so (Int × List SCargoOp × Int) (Int × List SCargoTank × List Int) impl_CargoRun_6_emb impl_CargoRun_6_prj (impl_CargoRun_6_b n)
noncomputable def impl_CargoRun_6_c : Code := ((loopCodes impl_CargoRun_code)[0]?).getD .skip
def impl_CargoRun_ann : Ann := fun id => bif Nat.beq id 3000006 then some ⟨[((.reg 8), 3000000, 198), ((.reg 9), 3000001, 3)], [8, 9], [3000000, 3000001]⟩ else none
def impl_CargoRun_Ls (n : Nat) : Nat → Option (LSpec T) := fun id => bif Nat.beq id 6 then some (impl_CargoRun_6_sp n) else none
theorem impl_CargoRun_6_le (n : Nat) : LoopEq (T := T) (Phi n 28) (impl_CargoRun_Ls n) impl_CargoRun_ann n impl_CargoRun_6_c (impl_CargoRun_6_sp n) := ⟨mkSpec_dec (fun y => rfl), fun c x => by kernel_rfl, fun K J c x => by kernel_rfl⟩
theorem impl_CargoRun_tie (n : Nat) (list0 : List SCargoTank) (ops1 : List SCargoOp) (lean2 : Int) : evF (T := T) (Phi n 28) (impl_CargoRun_Ls n) impl_CargoRun_ann n Try.f70 (sg 70) [vA T 86 list0, vA T 99 ops1, vA T 3 lean2] impl_CargoRun_dec = impl_CargoRun n list0 ops1 lean2 := by kernel_rfl
theorem impl_CargoRun_lo (n : Nat) : LoopsOk (T := T) (Phi n 28) (impl_CargoRun_Ls n) impl_CargoRun_ann n impl_CargoRun_code := loopsOk_all (cs := [impl_CargoRun_6_c]) (by kernel_rfl) ⟨⟨_, by kernel_rfl, impl_CargoRun_6_le n⟩, trivial⟩
theorem impl_CargoRun_ok (n : Nat) : EntOk Try.prog (ents n) (impl_CargoRun_ent n) := by
  intro hs ar y hg h
  replace h : impl_CargoRun_D n ar = some y := h
  unfold impl_CargoRun_D at h
  replace h := ocons_some h
  obtain ⟨a0, r0, rfl, h⟩ := h
  replace h := ocons_some h
  obtain ⟨a1, r1, rfl, h⟩ := h
  replace h := ocons_some h
  obtain ⟨a2, r2, rfl, h⟩ := h
  replace h := onil_some h
  obtain ⟨rfl, h⟩ := h
  obtain ⟨list0, qh0, h⟩ := obind_some h
  obtain ⟨ops1, qh1, h⟩ := obind_some h
  obtain ⟨lean2, qh2, h⟩ := obind_some h
  rw [argV_eq ok qh0, argV_eq ok qh1, argV_eq ok qh2]
  exact call_of (phiE_nat _ _) hs ok mixed Try.func70 (c := impl_CargoRun_code) (by kernel_rfl) (impl_CargoRun_lo n) (by kernel_rfl) (by kernel_rfl) (by kernel_rfl) impl_CargoRun_de ((impl_CargoRun_tie n list0 ops1 lean2).trans h)
noncomputable def laws_eqCargoTank_code : Code := match Try.f154.body with | some c => c | none => .skip
def laws_eqCargoTank_ann : Ann := fun id => none
def laws_eqCargoTank_Ls (n : Nat) : Nat → Option (LSpec T) := fun id => none
theorem laws_eqCargoTank_tie (n : Nat) (a0 : SCargoTank) (b1 : SCargoTank) : evF (T := T) (Phi n 29) (laws_eqCargoTank_Ls n) laws_eqCargoTank_ann n Try.f154 (sg 154) [vA T 198 a0, vA T 198 b1] laws_eqCargoTank_dec = laws_eqCargoTank n a0 b1 := by kernel_rfl
theorem laws_eqCargoTank_lo (n : Nat) : LoopsOk (T := T) (Phi n 29) (laws_eqCargoTank_Ls n) laws_eqCargoTank_ann n laws_eqCargoTank_code := loopsOk_all (cs := []) (by kernel_rfl) trivial
theorem laws_eqCargoTank_ok (n : Nat) : EntOk Try.prog (ents n) (laws_eqCargoTank_ent n) := by
  intro hs ar y hg h
  replace h : laws_eqCargoTank_D n ar = some y := h
  unfold laws_eqCargoTank_D at h
  replace h := ocons_some h
  obtain ⟨a0, r0, rfl, h⟩ := h
  replace h := ocons_some h
  obtain ⟨a1, r1, rfl, h⟩ := h
  replace h := onil_some h
  obtain ⟨rfl, h⟩ := h
  obtain ⟨a0, qh0, h⟩ := obind_some h
  obtain ⟨b1, qh1, h⟩ := obind_some h
  rw [argV_eq ok qh0, argV_eq ok qh1]
  exact call_of (phiE_nat _ _) hs ok mixed Try.func154 (c := laws_eqCargoTank_code) (by kernel_rfl) (laws_eqCargoTank_lo n) (by kernel_rfl) (by kernel_rfl) (by kernel_rfl) laws_eqCargoTank_de ((laws_eqCargoTank_tie n a0 b1).trans h)
noncomputable def laws_eqCargoTankS_code : Code := match Try.f64.body with | some c => c | none => .skip
def laws_eqCargoTankS_4_sv : List Sv := [.one (.arr 198), .one (.arr 198), .one (.int .i64)]
def laws_eqCargoTankS_4_so : List So := []
def laws_eqCargoTankS_4_emb (c : List SCargoTank × List SCargoTank) (x : Int) : EVs T laws_eqCargoTankS_4_sv × EOs T laws_eqCargoTankS_4_so := ((c.1, c.2, x, ()), ())
def laws_eqCargoTankS_4_prj (y : EVs T laws_eqCargoTankS_4_sv × EOs T laws_eqCargoTankS_4_so) : (List SCargoTank × List SCargoTank) × Int := ((y.1.1, y.1.2.1), (y.1.2.2.1))
def laws_eqCargoTankS_4_b (n : Nat) {R : Type} (K : Ex → Sm.St T → Option R) (c : List SCargoTank × List SCargoTank) (x : Int) (J : Int → Option R) : Option R :=
  laws_eqCargoTankS_L4 n (K (.exit 0) (stOf (T := T) [] [] [] [] () ())) (fun (y0 : Bool) => K .ret (stOf (T := T) [4] [] [.one (.bool)] [] (y0, ()) ())) J c.1 c.2 x
def laws_eqCargoTankS_4_sp (n : Nat) : LSpec T := mkSpec T ⟨[], [0, 1, 5], []⟩ laws_eqCargoTankS_4_sv laws_eqCargoTankS_4_so (List SCargoTank × List SCargoTank) (Int) laws_eqCargoTankS_4_emb laws_eqCargoTankS_4_prj (laws_eqCargoTankS_4_b n)
noncomputable def laws_eqCargoTankS_4_c : Code := ((loopCodes laws_eqCargoTankS_code)[0]?).getD .skip
def laws_eqCargoTankS_ann : Ann := fun id => bif Nat.beq id 3000004 then some ⟨[], [], []⟩ else bif Nat.beq id 2000004 then some ⟨[], [4], []⟩ else none
def laws_eqCargoTankS_Ls (n : Nat) : Nat → Option (LSpec T) := fun id => bif Nat.beq id 4 then some (laws_eqCargoTankS_4_sp n) else none
theorem laws_eqCargoTankS_4_le (n : Nat) : LoopEq (T := T) (Phi n 30) (laws_eqCargoTankS_Ls n) laws_eqCargoTankS_ann n laws_eqCargoTankS_4_c (laws_eqCargoTankS_4_sp n) := ⟨mkSpec_dec (fun y => rfl), fun c x => by kernel_rfl, fun K J c x => by kernel_rfl⟩
theorem laws_eqCargoTankS_tie (n : Nat) (a0 : List SCargoTank) (b1 : List SCargoTank) : evF (T := T) (Phi n 30) (laws_eqCargoTankS_Ls n) laws_eqCargoTankS_ann n Try.f64 (sg 64) [vA T 86 a0, vA T 86 b1] laws_eqCargoTankS_dec = laws_eqCargoTankS n a0 b1 := by kernel_rfl
theorem laws_eqCargoTankS_lo (n : Nat) : LoopsOk (T := T) (Phi n 30) (laws_eqCargoTankS_Ls n) laws_eqCargoTankS_ann n laws_eqCargoTankS_code := loopsOk_all (cs := [laws_eqCargoTankS_4_c]) (by kernel_rfl) ⟨⟨_, by kernel_rfl, laws_eqCargoTankS_4_le n⟩, trivial⟩
theorem laws_eqCargoTankS_ok (n : Nat) : EntOk Try.prog (ents n) (laws_eqCargoTankS_ent n) := by
  intro hs ar y hg h
  replace h : laws_eqCargoTankS_D n ar = some y := h
  unfold laws_eqCargoTankS_D at h
  replace h := ocons_some h
  obtain ⟨a0, r0, rfl, h⟩ := h
  replace h := ocons_some h
  obtain ⟨a1, r1, rfl, h⟩ := h
  replace h := onil_some h
  obtain ⟨rfl, h⟩ := h
  obtain ⟨a0, qh0, h⟩ := obind_some h
  obtain ⟨b1, qh1, h⟩ := obind_some h
  rw [argV_eq ok qh0, argV_eq ok qh1]
  exact call_of (phiE_nat _ _) hs ok mixed Try.func64 (c := laws_eqCargoTankS_code) (by kernel_rfl) (laws_eqCargoTankS_lo n) (by kernel_rfl) (by kernel_rfl) (by kernel_rfl) laws_eqCargoTankS_de ((laws_eqCargoTankS_tie n a0 b1).trans h)
noncomputable def laws_eqIntS_code : Code := match Try.f19.body with | some c => c | none => .skip
def laws_eqIntS_4_sv : List Sv := [.one (.arr 3), .one (.arr 3), .one (.int .i64)]
def laws_eqIntS_4_so : List So := []
def laws_eqIntS_4_emb (c : List Int × List Int) (x : Int) : EVs T laws_eqIntS_4_sv × EOs T laws_eqIntS_4_so := ((c.1, c.2, x, ()), ())
def laws_eqIntS_4_prj (y : EVs T laws_eqIntS_4_sv × EOs T laws_eqIntS_4_so) : (List Int × List Int) × Int := ((y.1.1, y.1.2.1), (y.1.2.2.1))
def laws_eqIntS_4_b (n : Nat) {R : Type} (K : Ex → Sm.St T → Option R) (c : List Int × List Int) (x : Int) (J : Int → Option R) : Option R :=
  laws_eqIntS_L4 n (K (.exit 0) (stOf (T := T) [] [] [] [] () ())) (fun (y0 : Bool) => K .ret (stOf (T := T) [4] [] [.one (.bool)] [] (y0, ()) ())) J c.1 c.2 x
def laws_eqIntS_4_sp (n : Nat) : LSpec T := mkSpec T ⟨[], [0, 1, 5], []⟩ laws_eqIntS_4_sv laws_eqIntS_4_so (List Int × List Int) (Int) laws_eqIntS_4_emb laws_eqIntS_4_prj (laws_eqIntS_4_b n)
noncomputable def laws_eqIntS_4_c : Code := ((loopCodes laws_eqIntS_code)[0]?).getD .skip
def laws_eqIntS_ann : Ann := fun id => bif Nat.beq id 3000004 then some ⟨[], [], []⟩ else bif Nat.beq id 2000004 then some ⟨[], [4], []⟩ else none
def laws_eqIntS_Ls (n : Nat) : Nat → Option (LSpec T) := fun id => bif Nat.beq id 4 then some (laws_eqIntS_4_sp n) else none
theorem laws_eqIntS_4_le (n : Nat) : LoopEq (T := T) (Phi n 31) (laws_eqIntS_Ls n) laws_eqIntS_ann n laws_eqIntS_4_c (laws_eqIntS_4_sp n) := ⟨mkSpec_dec (fun y => rfl), fun c x => by kernel_rfl, fun K J c x => by kernel_rfl⟩
theorem laws_eqIntS_tie (n : Nat) (a0 : List Int) (b1 : List Int) : evF (T := T) (Phi n 31) (laws_eqIntS_Ls n) laws_eqIntS_ann n Try.f19 (sg 19) [vA T 24 a0, vA T 24 b1] laws_eqIntS_dec = laws_eqIntS n a0 b1 := by kernel_rfl
theorem laws_eqIntS_lo (n : Nat) : LoopsOk (T := T) (Phi n 31) (laws_eqIntS_Ls n) laws_eqIntS_ann n laws_eqIntS_code := loopsOk_all (cs := [laws_eqIntS_4_c]) (by kernel_rfl) ⟨⟨_, by kernel_rfl, laws_eqIntS_4_le n⟩, trivial⟩
theorem laws_eqIntS_ok (n : Nat) : EntOk Try.prog (ents n) (laws_eqIntS_ent n) := by
  intro hs ar y hg h
  replace h : laws_eqIntS_D n ar = some y := h
  unfold laws_eqIntS_D at h
  replace h := ocons_some h
  obtain ⟨a0, r0, rfl, h⟩ := h
  replace h := ocons_some h
  obtain ⟨a1, r1, rfl, h⟩ := h
  replace h := onil_some h
  obtain ⟨rfl, h⟩ := h
  obtain ⟨a0, qh0, h⟩ := obind_some h
  obtain ⟨b1, qh1, h⟩ := obind_some h
  rw [argV_eq ok qh0, argV_eq ok qh1]
  exact call_of (phiE_nat _ _) hs ok mixed Try.func19 (c := laws_eqIntS_code) (by kernel_rfl) (laws_eqIntS_lo n) (by kernel_rfl) (by kernel_rfl) (by kernel_rfl) laws_eqIntS_de ((laws_eqIntS_tie n a0 b1).trans h)
noncomputable def laws_eqCargoOp_code : Code := match Try.f155.body with | some c => c | none => .skip
def laws_eqCargoOp_ann : Ann := fun id => none
def laws_eqCargoOp_Ls (n : Nat) : Nat → Option (LSpec T) := fun id => none
theorem laws_eqCargoOp_tie (n : Nat) (a0 : SCargoOp) (b1 : SCargoOp) : evF (T := T) (Phi n 32) (laws_eqCargoOp_Ls n) laws_eqCargoOp_ann n Try.f155 (sg 155) [vA T 90 a0, vA T 90 b1] laws_eqCargoOp_dec = laws_eqCargoOp n a0 b1 := by kernel_rfl
theorem laws_eqCargoOp_lo (n : Nat) : LoopsOk (T := T) (Phi n 32) (laws_eqCargoOp_Ls n) laws_eqCargoOp_ann n laws_eqCargoOp_code := loopsOk_all (cs := []) (by kernel_rfl) trivial
theorem laws_eqCargoOp_ok (n : Nat) : EntOk Try.prog (ents n) (laws_eqCargoOp_ent n) := by
  intro hs ar y hg h
  replace h : laws_eqCargoOp_D n ar = some y := h
  unfold laws_eqCargoOp_D at h
  replace h := ocons_some h
  obtain ⟨a0, r0, rfl, h⟩ := h
  replace h := ocons_some h
  obtain ⟨a1, r1, rfl, h⟩ := h
  replace h := onil_some h
  obtain ⟨rfl, h⟩ := h
  obtain ⟨a0, qh0, h⟩ := obind_some h
  obtain ⟨b1, qh1, h⟩ := obind_some h
  rw [argV_eq ok qh0, argV_eq ok qh1]
  exact call_of (phiE_nat _ _) hs ok mixed Try.func155 (c := laws_eqCargoOp_code) (by kernel_rfl) (laws_eqCargoOp_lo n) (by kernel_rfl) (by kernel_rfl) (by kernel_rfl) laws_eqCargoOp_de ((laws_eqCargoOp_tie n a0 b1).trans h)
noncomputable def laws_eqCargoOpS_code : Code := match Try.f71.body with | some c => c | none => .skip
def laws_eqCargoOpS_4_sv : List Sv := [.one (.arr 90), .one (.arr 90), .one (.int .i64)]
def laws_eqCargoOpS_4_so : List So := []
def laws_eqCargoOpS_4_emb (c : List SCargoOp × List SCargoOp) (x : Int) : EVs T laws_eqCargoOpS_4_sv × EOs T laws_eqCargoOpS_4_so := ((c.1, c.2, x, ()), ())
def laws_eqCargoOpS_4_prj (y : EVs T laws_eqCargoOpS_4_sv × EOs T laws_eqCargoOpS_4_so) : (List SCargoOp × List SCargoOp) × Int := ((y.1.1, y.1.2.1), (y.1.2.2.1))
def laws_eqCargoOpS_4_b (n : Nat) {R : Type} (K : Ex → Sm.St T → Option R) (c : List SCargoOp × List SCargoOp) (x : Int) (J : Int → Option R) : Option R :=
  laws_eqCargoOpS_L4 n (K (.exit 0) (stOf (T := T) [] [] [] [] () ())) (fun (y0 : Bool) => K .ret (stOf (T := T) [4] [] [.one (.bool)] [] (y0, ()) ())) J c.1 c.2 x
def laws_eqCargoOpS_4_sp (n : Nat) : LSpec T := mkSpec T ⟨[], [0, 1, 5], []⟩ laws_eqCargoOpS_4_sv laws_eqCargoOpS_4_so (List SCargoOp × List SCargoOp) (Int) laws_eqCargoOpS_4_emb laws_eqCargoOpS_4_prj (laws_eqCargoOpS_4_b n)
noncomputable def laws_eqCargoOpS_4_c : Code := ((loopCodes laws_eqCargoOpS_code)[0]?).getD .skip
def laws_eqCargoOpS_ann : Ann := fun id => bif Nat.beq id 3000004 then some ⟨[], [], []⟩ else bif Nat.beq id 2000004 then some ⟨[], [4], []⟩ else none
def laws_eqCargoOpS_Ls (n : Nat) : Nat → Option (LSpec T) := fun id => bif Nat.beq id 4 then some (laws_eqCargoOpS_4_sp n) else none
theorem laws_eqCargoOpS_4_le (n : Nat) : LoopEq (T := T) (Phi n 33) (laws_eqCargoOpS_Ls n) laws_eqCargoOpS_ann n laws_eqCargoOpS_4_c (laws_eqCargoOpS_4_sp n) := ⟨mkSpec_dec (fun y => rfl), fun c x => by kernel_rfl, fun K J c x => by kernel_rfl⟩
theorem laws_eqCargoOpS_tie (n : Nat) (a0 : List SCargoOp) (b1 : List SCargoOp) : evF (T := T) (Phi n 33) (laws_eqCargoOpS_Ls n) laws_eqCargoOpS_ann n Try.f71 (sg 71) [vA T 99 a0, vA T 99 b1] laws_eqCargoOpS_dec = laws_eqCargoOpS n a0 b1 := by kernel_rfl
theorem laws_eqCargoOpS_lo (n : Nat) : LoopsOk (T := T) (Phi n 33) (laws_eqCargoOpS_Ls n) laws_eqCargoOpS_ann n laws_eqCargoOpS_code := loopsOk_all (cs := [laws_eqCargoOpS_4_c]) (by kernel_rfl) ⟨⟨_, by kernel_rfl, laws_eqCargoOpS_4_le n⟩, trivial⟩
theorem laws_eqCargoOpS_ok (n : Nat) : EntOk Try.prog (ents n) (laws_eqCargoOpS_ent n) := by
  intro hs ar y hg h
  replace h : laws_eqCargoOpS_D n ar = some y := h
  unfold laws_eqCargoOpS_D at h
  replace h := ocons_some h
  obtain ⟨a0, r0, rfl, h⟩ := h
  replace h := ocons_some h
  obtain ⟨a1, r1, rfl, h⟩ := h
  replace h := onil_some h
  obtain ⟨rfl, h⟩ := h
  obtain ⟨a0, qh0, h⟩ := obind_some h
  obtain ⟨b1, qh1, h⟩ := obind_some h
  rw [argV_eq ok qh0, argV_eq ok qh1]
  exact call_of (phiE_nat _ _) hs ok mixed Try.func71 (c := laws_eqCargoOpS_code) (by kernel_rfl) (laws_eqCargoOpS_lo n) (by kernel_rfl) (by kernel_rfl) (by kernel_rfl) laws_eqCargoOpS_de ((laws_eqCargoOpS_tie n a0 b1).trans h)
noncomputable def laws_markCargoTankS_code : Code := match Try.f65.body with | some c => c | none => .skip
def laws_markCargoTankS_2_sv : List Sv := [.one (.own 4503599627370496 198 false), .one (.int .i64), .one (.int .i64)]
def laws_markCargoTankS_2_so : List So := [.arr 198 true]
def laws_markCargoTankS_2_emb (c : Unit) (x : Int × Int × List SCargoTank) : EVs T laws_markCargoTankS_2_sv × EOs T laws_markCargoTankS_2_so := (((), x.1, x.2.1, ()), (x.2.2, ()))
def laws_markCargoTankS_2_prj (y : EVs T laws_markCargoTankS_2_sv × EOs T laws_markCargoTankS_2_so) : Unit × (Int × Int × List SCargoTank) := ((), (y.1.2.1, y.1.2.2.1, y.2.1))
def laws_markCargoTankS_2_b (n : Nat) {R : Type} (K : Ex → Sm.St T → Option R) (c : Unit) (x : Int × Int × List SCargoTank) (J : (Int × Int × List SCargoTank) → Option R) : Option R :=
  laws_markCargoTankS_L2 n (fun (y0 : Int) (y1 : List SCargoTank) => K (.exit 0) (stOf (T := T) [1] [4503599627370496] [.one (.int .i64)] [.arr 198 true] (y0, ()) (y1, ()))) (fun z0 z1 z2 => J (z0, z1, z2)) x.1 x.2.1 x.2.2
def laws_markCargoTankS_2_sp (n : Nat) : LSpec T := mkSpec T ⟨[], [0, 1, 5], [4503599627370496]⟩ laws_markCargoTankS_2_sv laws_markCargoTankS_2_so (Unit) (Int × Int × List SCargoTank) laws_markCargoTankS_2_emb laws_markCargoTankS_2_prj (laws_markCargoTankS_2_b n)
noncomputable def laws_markCargoTankS_2_c : Code := ((loopCodes laws_markCargoTankS_code)[0]?).getD .skip
def laws_markCargoTankS_ann : Ann := fun id => bif Nat.beq id 3000002 then some ⟨[], [1], [4503599627370496]⟩ else none
def laws_markCargoTankS_Ls (n : Nat) : Nat → Option (LSpec T) := fun id => bif Nat.beq id 2 then some (laws_markCargoTankS_2_sp n) else none
theorem laws_markCargoTankS_2_le (n : Nat) : LoopEq (T := T) (Phi n 34) (laws_markCargoTankS_Ls n) laws_markCargoTankS_ann n laws_markCargoTankS_2_c (laws_markCargoTankS_2_sp n) := ⟨mkSpec_dec (fun y => rfl), fun c x => by kernel_rfl, fun K J c x => by kernel_rfl⟩
theorem laws_markCargoTankS_tie (n : Nat) (a0 : List SCargoTank) (k1 : Int) : evF (T := T) (Phi n 34) (laws_markCargoTankS_Ls n) laws_markCargoTankS_ann n Try.f65 (sg 65) [vA T 86 a0, vA T 3 k1] laws_markCargoTankS_dec = laws_markCargoTankS n a0 k1 := by kernel_rfl
theorem laws_markCargoTankS_lo (n : Nat) : LoopsOk (T := T) (Phi n 34) (laws_markCargoTankS_Ls n) laws_markCargoTankS_ann n laws_markCargoTankS_code := loopsOk_all (cs := [laws_markCargoTankS_2_c]) (by kernel_rfl) ⟨⟨_, by kernel_rfl, laws_markCargoTankS_2_le n⟩, trivial⟩
theorem laws_markCargoTankS_ok (n : Nat) : EntOk Try.prog (ents n) (laws_markCargoTankS_ent n) := by
  intro hs ar y hg h
  replace h : laws_markCargoTankS_D n ar = some y := h
  unfold laws_markCargoTankS_D at h
  replace h := ocons_some h
  obtain ⟨a0, r0, rfl, h⟩ := h
  replace h := ocons_some h
  obtain ⟨a1, r1, rfl, h⟩ := h
  replace h := onil_some h
  obtain ⟨rfl, h⟩ := h
  obtain ⟨a0, qh0, h⟩ := obind_some h
  obtain ⟨k1, qh1, h⟩ := obind_some h
  rw [argV_eq ok qh0, argV_eq ok qh1]
  exact call_of (phiE_nat _ _) hs ok mixed Try.func65 (c := laws_markCargoTankS_code) (by kernel_rfl) (laws_markCargoTankS_lo n) (by kernel_rfl) (by kernel_rfl) (by kernel_rfl) laws_markCargoTankS_de ((laws_markCargoTankS_tie n a0 k1).trans h)
noncomputable def laws_markCargoOpS_code : Code := match Try.f72.body with | some c => c | none => .skip
def laws_markCargoOpS_2_sv : List Sv := [.one (.own 4503599627370496 90 false), .one (.int .i64), .one (.int .i64)]
def laws_markCargoOpS_2_so : List So := [.arr 90 true]
def laws_markCargoOpS_2_emb (c : Unit) (x : Int × Int × List SCargoOp) : EVs T laws_markCargoOpS_2_sv × EOs T laws_markCargoOpS_2_so := (((), x.1, x.2.1, ()), (x.2.2, ()))
def laws_markCargoOpS_2_prj (y : EVs T laws_markCargoOpS_2_sv × EOs T laws_markCargoOpS_2_so) : Unit × (Int × Int × List SCargoOp) := ((), (y.1.2.1, y.1.2.2.1, y.2.1))
def laws_markCargoOpS_2_b (n : Nat) {R : Type} (K : Ex → Sm.St T → Option R) (c : Unit) (x : Int × Int × List SCargoOp) (J : (Int × Int × List SCargoOp) → Option R) : Option R :=
  laws_markCargoOpS_L2 n (fun (y0 : Int) (y1 : List SCargoOp) => K (.exit 0) (stOf (T := T) [1] [4503599627370496] [.one (.int .i64)] [.arr 90 true] (y0, ()) (y1, ()))) (fun z0 z1 z2 => J (z0, z1, z2)) x.1 x.2.1 x.2.2
def laws_markCargoOpS_2_sp (n : Nat) : LSpec T := mkSpec T ⟨[], [0, 1, 5], [4503599627370496]⟩ laws_markCargoOpS_2_sv laws_markCargoOpS_2_so (Unit) (Int × Int × List SCargoOp) laws_markCargoOpS_2_emb laws_markCargoOpS_2_prj (laws_markCargoOpS_2_b n)
noncomputable def laws_markCargoOpS_2_c : Code := ((loopCodes laws_markCargoOpS_code)[0]?).getD .skip
def laws_markCargoOpS_ann : Ann := fun id => bif Nat.beq id 3000002 then some ⟨[], [1], [4503599627370496]⟩ else none
def laws_markCargoOpS_Ls (n : Nat) : Nat → Option (LSpec T) := fun id => bif Nat.beq id 2 then some (laws_markCargoOpS_2_sp n) else none
theorem laws_markCargoOpS_2_le (n : Nat) : LoopEq (T := T) (Phi n 35) (laws_markCargoOpS_Ls n) laws_markCargoOpS_ann n laws_markCargoOpS_2_c (laws_markCargoOpS_2_sp n) := ⟨mkSpec_dec (fun y => rfl), fun c x => by kernel_rfl, fun K J c x => by kernel_rfl⟩
theorem laws_markCargoOpS_tie (n : Nat) (a0 : List SCargoOp) (k1 : Int) : evF (T := T) (Phi n 35) (laws_markCargoOpS_Ls n) laws_markCargoOpS_ann n Try.f72 (sg 72) [vA T 99 a0, vA T 3 k1] laws_markCargoOpS_dec = laws_markCargoOpS n a0 k1 := by kernel_rfl
theorem laws_markCargoOpS_lo (n : Nat) : LoopsOk (T := T) (Phi n 35) (laws_markCargoOpS_Ls n) laws_markCargoOpS_ann n laws_markCargoOpS_code := loopsOk_all (cs := [laws_markCargoOpS_2_c]) (by kernel_rfl) ⟨⟨_, by kernel_rfl, laws_markCargoOpS_2_le n⟩, trivial⟩
theorem laws_markCargoOpS_ok (n : Nat) : EntOk Try.prog (ents n) (laws_markCargoOpS_ent n) := by
  intro hs ar y hg h
  replace h : laws_markCargoOpS_D n ar = some y := h
  unfold laws_markCargoOpS_D at h
  replace h := ocons_some h
  obtain ⟨a0, r0, rfl, h⟩ := h
  replace h := ocons_some h
  obtain ⟨a1, r1, rfl, h⟩ := h
  replace h := onil_some h
  obtain ⟨rfl, h⟩ := h
  obtain ⟨a0, qh0, h⟩ := obind_some h
  obtain ⟨k1, qh1, h⟩ := obind_some h
  rw [argV_eq ok qh0, argV_eq ok qh1]
  exact call_of (phiE_nat _ _) hs ok mixed Try.func72 (c := laws_markCargoOpS_code) (by kernel_rfl) (laws_markCargoOpS_lo n) (by kernel_rfl) (by kernel_rfl) (by kernel_rfl) laws_markCargoOpS_de ((laws_markCargoOpS_tie n a0 k1).trans h)
noncomputable def laws_markIntS_code : Code := match Try.f22.body with | some c => c | none => .skip
def laws_markIntS_2_sv : List Sv := [.one (.own 4503599627370496 3 false), .one (.int .i64), .one (.int .i64)]
def laws_markIntS_2_so : List So := [.arr 3 true]
def laws_markIntS_2_emb (c : Unit) (x : Int × Int × List Int) : EVs T laws_markIntS_2_sv × EOs T laws_markIntS_2_so := (((), x.1, x.2.1, ()), (x.2.2, ()))
def laws_markIntS_2_prj (y : EVs T laws_markIntS_2_sv × EOs T laws_markIntS_2_so) : Unit × (Int × Int × List Int) := ((), (y.1.2.1, y.1.2.2.1, y.2.1))
def laws_markIntS_2_b (n : Nat) {R : Type} (K : Ex → Sm.St T → Option R) (c : Unit) (x : Int × Int × List Int) (J : (Int × Int × List Int) → Option R) : Option R :=
  laws_markIntS_L2 n (fun (y0 : Int) (y1 : List Int) => K (.exit 0) (stOf (T := T) [1] [4503599627370496] [.one (.int .i64)] [.arr 3 true] (y0, ()) (y1, ()))) (fun z0 z1 z2 => J (z0, z1, z2)) x.1 x.2.1 x.2.2
def laws_markIntS_2_sp (n : Nat) : LSpec T := mkSpec T ⟨[], [0, 1, 5], [4503599627370496]⟩ laws_markIntS_2_sv laws_markIntS_2_so (Unit) (Int × Int × List Int) laws_markIntS_2_emb laws_markIntS_2_prj (laws_markIntS_2_b n)
noncomputable def laws_markIntS_2_c : Code := ((loopCodes laws_markIntS_code)[0]?).getD .skip
def laws_markIntS_ann : Ann := fun id => bif Nat.beq id 3000002 then some ⟨[], [1], [4503599627370496]⟩ else none
def laws_markIntS_Ls (n : Nat) : Nat → Option (LSpec T) := fun id => bif Nat.beq id 2 then some (laws_markIntS_2_sp n) else none
theorem laws_markIntS_2_le (n : Nat) : LoopEq (T := T) (Phi n 36) (laws_markIntS_Ls n) laws_markIntS_ann n laws_markIntS_2_c (laws_markIntS_2_sp n) := ⟨mkSpec_dec (fun y => rfl), fun c x => by kernel_rfl, fun K J c x => by kernel_rfl⟩
theorem laws_markIntS_tie (n : Nat) (a0 : List Int) (k1 : Int) : evF (T := T) (Phi n 36) (laws_markIntS_Ls n) laws_markIntS_ann n Try.f22 (sg 22) [vA T 24 a0, vA T 3 k1] laws_markIntS_dec = laws_markIntS n a0 k1 := by kernel_rfl
theorem laws_markIntS_lo (n : Nat) : LoopsOk (T := T) (Phi n 36) (laws_markIntS_Ls n) laws_markIntS_ann n laws_markIntS_code := loopsOk_all (cs := [laws_markIntS_2_c]) (by kernel_rfl) ⟨⟨_, by kernel_rfl, laws_markIntS_2_le n⟩, trivial⟩
theorem laws_markIntS_ok (n : Nat) : EntOk Try.prog (ents n) (laws_markIntS_ent n) := by
  intro hs ar y hg h
  replace h : laws_markIntS_D n ar = some y := h
  unfold laws_markIntS_D at h
  replace h := ocons_some h
  obtain ⟨a0, r0, rfl, h⟩ := h
  replace h := ocons_some h
  obtain ⟨a1, r1, rfl, h⟩ := h
  replace h := onil_some h
  obtain ⟨rfl, h⟩ := h
  obtain ⟨a0, qh0, h⟩ := obind_some h
  obtain ⟨k1, qh1, h⟩ := obind_some h
  rw [argV_eq ok qh0, argV_eq ok qh1]
  exact call_of (phiE_nat _ _) hs ok mixed Try.func22 (c := laws_markIntS_code) (by kernel_rfl) (laws_markIntS_lo n) (by kernel_rfl) (by kernel_rfl) (by kernel_rfl) laws_markIntS_de ((laws_markIntS_tie n a0 k1).trans h)
noncomputable def laws_heldCargoTankS_code : Code := match Try.f66.body with | some c => c | none => .skip
def laws_heldCargoTankS_2_sv : List Sv := [.one (.arr 198), .one (.int .i64), .one (.int .i64)]
def laws_heldCargoTankS_2_so : List So := []
def laws_heldCargoTankS_2_emb (c : List SCargoTank) (x : Int × Int) : EVs T laws_heldCargoTankS_2_sv × EOs T laws_heldCargoTankS_2_so := ((c, x.1, x.2, ()), ())
def laws_heldCargoTankS_2_prj (y : EVs T laws_heldCargoTankS_2_sv × EOs T laws_heldCargoTankS_2_so) : List SCargoTank × (Int × Int) := ((y.1.1), (y.1.2.1, y.1.2.2.1))
def laws_heldCargoTankS_2_b (n : Nat) {R : Type} (K : Ex → Sm.St T → Option R) (c : List SCargoTank) (x : Int × Int) (J : (Int × Int) → Option R) : Option R :=
  laws_heldCargoTankS_L2 n (fun (y0 : Int) => K (.exit 0) (stOf (T := T) [1] [] [.one (.int .i64)] [] (y0, ()) ())) (fun (y0 : Int) => K .ret (stOf (T := T) [4] [] [.one (.int .i64)] [] (y0, ()) ())) (fun z0 z1 => J (z0, z1)) c x.1 x.2
def laws_heldCargoTankS_2_sp (n : Nat) : LSpec T := mkSpec T ⟨[], [0, 1, 5], []⟩ laws_heldCargoTankS_2_sv laws_heldCargoTankS_2_so (List SCargoTank) (Int × Int) laws_heldCargoTankS_2_emb laws_heldCargoTankS_2_prj (laws_heldCargoTankS_2_b n)
noncomputable def laws_heldCargoTankS_2_c : Code := ((loopCodes laws_heldCargoTankS_code)[0]?).getD .skip
def laws_heldCargoTankS_ann : Ann := fun id => bif Nat.beq id 3000002 then some ⟨[], [1], []⟩ else bif Nat.beq id 2000002 then some ⟨[], [4], []⟩ else none
def laws_heldCargoTankS_Ls (n : Nat) : Nat → Option (LSpec T) := fun id => bif Nat.beq id 2 then some (laws_heldCargoTankS_2_sp n) else none
theorem laws_heldCargoTankS_2_le (n : Nat) : LoopEq (T := T) (Phi n 37) (laws_heldCargoTankS_Ls n) laws_heldCargoTankS_ann n laws_heldCargoTankS_2_c (laws_heldCargoTankS_2_sp n) := ⟨mkSpec_dec (fun y => rfl), fun c x => by kernel_rfl, fun K J c x => by kernel_rfl⟩
theorem laws_heldCargoTankS_tie (n : Nat) (a0 : List SCargoTank) (k1 : Int) : evF (T := T) (Phi n 37) (laws_heldCargoTankS_Ls n) laws_heldCargoTankS_ann n Try.f66 (sg 66) [vA T 86 a0, vA T 3 k1] laws_heldCargoTankS_dec = laws_heldCargoTankS n a0 k1 := by kernel_rfl
theorem laws_heldCargoTankS_lo (n : Nat) : LoopsOk (T := T) (Phi n 37) (laws_heldCargoTankS_Ls n) laws_heldCargoTankS_ann n laws_heldCargoTankS_code := loopsOk_all (cs := [laws_heldCargoTankS_2_c]) (by kernel_rfl) ⟨⟨_, by kernel_rfl, laws_heldCargoTankS_2_le n⟩, trivial⟩
theorem laws_heldCargoTankS_ok (n : Nat) : EntOk Try.prog (ents n) (laws_heldCargoTankS_ent n) := by
  intro hs ar y hg h
  replace h : laws_heldCargoTankS_D n ar = some y := h
  unfold laws_heldCargoTankS_D at h
  replace h := ocons_some h
  obtain ⟨a0, r0, rfl, h⟩ := h
  replace h := ocons_some h
  obtain ⟨a1, r1, rfl, h⟩ := h
  replace h := onil_some h
  obtain ⟨rfl, h⟩ := h
  obtain ⟨a0, qh0, h⟩ := obind_some h
  obtain ⟨k1, qh1, h⟩ := obind_some h
  rw [argV_eq ok qh0, argV_eq ok qh1]
  exact call_of (phiE_nat _ _) hs ok mixed Try.func66 (c := laws_heldCargoTankS_code) (by kernel_rfl) (laws_heldCargoTankS_lo n) (by kernel_rfl) (by kernel_rfl) (by kernel_rfl) laws_heldCargoTankS_de ((laws_heldCargoTankS_tie n a0 k1).trans h)
noncomputable def laws_heldIntS_code : Code := match Try.f23.body with | some c => c | none => .skip
def laws_heldIntS_2_sv : List Sv := [.one (.arr 3), .one (.int .i64), .one (.int .i64)]
def laws_heldIntS_2_so : List So := []
def laws_heldIntS_2_emb (c : List Int) (x : Int × Int) : EVs T laws_heldIntS_2_sv × EOs T laws_heldIntS_2_so := ((c, x.1, x.2, ()), ())
def laws_heldIntS_2_prj (y : EVs T laws_heldIntS_2_sv × EOs T laws_heldIntS_2_so) : List Int × (Int × Int) := ((y.1.1), (y.1.2.1, y.1.2.2.1))
def laws_heldIntS_2_b (n : Nat) {R : Type} (K : Ex → Sm.St T → Option R) (c : List Int) (x : Int × Int) (J : (Int × Int) → Option R) : Option R :=
  laws_heldIntS_L2 n (fun (y0 : Int) => K (.exit 0) (stOf (T := T) [1] [] [.one (.int .i64)] [] (y0, ()) ())) (fun (y0 : Int) => K .ret (stOf (T := T) [4] [] [.one (.int .i64)] [] (y0, ()) ())) (fun z0 z1 => J (z0, z1)) c x.1 x.2
def laws_heldIntS_2_sp (n : Nat) : LSpec T := mkSpec T ⟨[], [0, 1, 5], []⟩ laws_heldIntS_2_sv laws_heldIntS_2_so (List Int) (Int × Int) laws_heldIntS_2_emb laws_heldIntS_2_prj (laws_heldIntS_2_b n)
noncomputable def laws_heldIntS_2_c : Code := ((loopCodes laws_heldIntS_code)[0]?).getD .skip
def laws_heldIntS_ann : Ann := fun id => bif Nat.beq id 3000002 then some ⟨[], [1], []⟩ else bif Nat.beq id 2000002 then some ⟨[], [4], []⟩ else none
def laws_heldIntS_Ls (n : Nat) : Nat → Option (LSpec T) := fun id => bif Nat.beq id 2 then some (laws_heldIntS_2_sp n) else none
theorem laws_heldIntS_2_le (n : Nat) : LoopEq (T := T) (Phi n 38) (laws_heldIntS_Ls n) laws_heldIntS_ann n laws_heldIntS_2_c (laws_heldIntS_2_sp n) := ⟨mkSpec_dec (fun y => rfl), fun c x => by kernel_rfl, fun K J c x => by kernel_rfl⟩
theorem laws_heldIntS_tie (n : Nat) (a0 : List Int) (k1 : Int) : evF (T := T) (Phi n 38) (laws_heldIntS_Ls n) laws_heldIntS_ann n Try.f23 (sg 23) [vA T 24 a0, vA T 3 k1] laws_heldIntS_dec = laws_heldIntS n a0 k1 := by kernel_rfl
theorem laws_heldIntS_lo (n : Nat) : LoopsOk (T := T) (Phi n 38) (laws_heldIntS_Ls n) laws_heldIntS_ann n laws_heldIntS_code := loopsOk_all (cs := [laws_heldIntS_2_c]) (by kernel_rfl) ⟨⟨_, by kernel_rfl, laws_heldIntS_2_le n⟩, trivial⟩
theorem laws_heldIntS_ok (n : Nat) : EntOk Try.prog (ents n) (laws_heldIntS_ent n) := by
  intro hs ar y hg h
  replace h : laws_heldIntS_D n ar = some y := h
  unfold laws_heldIntS_D at h
  replace h := ocons_some h
  obtain ⟨a0, r0, rfl, h⟩ := h
  replace h := ocons_some h
  obtain ⟨a1, r1, rfl, h⟩ := h
  replace h := onil_some h
  obtain ⟨rfl, h⟩ := h
  obtain ⟨a0, qh0, h⟩ := obind_some h
  obtain ⟨k1, qh1, h⟩ := obind_some h
  rw [argV_eq ok qh0, argV_eq ok qh1]
  exact call_of (phiE_nat _ _) hs ok mixed Try.func23 (c := laws_heldIntS_code) (by kernel_rfl) (laws_heldIntS_lo n) (by kernel_rfl) (by kernel_rfl) (by kernel_rfl) laws_heldIntS_de ((laws_heldIntS_tie n a0 k1).trans h)
noncomputable def laws_FnExactCargoRun_code : Code := match Try.f9.body with | some c => c | none => .skip
def laws_FnExactCargoRun_ann : Ann := fun id => none
def laws_FnExactCargoRun_Ls (n : Nat) : Nat → Option (LSpec T) := fun id => none
theorem laws_FnExactCargoRun_tie (n : Nat) (aList0 : List SCargoTank) (aOps1 : List SCargoOp) (aLean2 : Int) : evF (T := T) (Phi n 39) (laws_FnExactCargoRun_Ls n) laws_FnExactCargoRun_ann n Try.f9 (sg 9) [vA T 82 aList0, vA T 95 aOps1, vA T 3 aLean2] laws_FnExactCargoRun_dec = laws_FnExactCargoRun n aList0 aOps1 aLean2 := by kernel_rfl
theorem laws_FnExactCargoRun_lo (n : Nat) : LoopsOk (T := T) (Phi n 39) (laws_FnExactCargoRun_Ls n) laws_FnExactCargoRun_ann n laws_FnExactCargoRun_code := loopsOk_all (cs := []) (by kernel_rfl) trivial
theorem laws_FnExactCargoRun_ok (n : Nat) : EntOk Try.prog (ents n) (laws_FnExactCargoRun_ent n) := by
  intro hs ar y hg h
  replace h : laws_FnExactCargoRun_D n ar = some y := h
  unfold laws_FnExactCargoRun_D at h
  replace h := ocons_some h
  obtain ⟨a0, r0, rfl, h⟩ := h
  replace h := ocons_some h
  obtain ⟨a1, r1, rfl, h⟩ := h
  replace h := ocons_some h
  obtain ⟨a2, r2, rfl, h⟩ := h
  replace h := onil_some h
  obtain ⟨rfl, h⟩ := h
  obtain ⟨aList0, qh0, h⟩ := obind_some h
  obtain ⟨aOps1, qh1, h⟩ := obind_some h
  obtain ⟨aLean2, qh2, h⟩ := obind_some h
  rw [argV_eq ok qh0, argV_eq ok qh1, argV_eq ok qh2]
  exact call_of (phiE_nat _ _) hs ok mixed Try.func9 (c := laws_FnExactCargoRun_code) (by kernel_rfl) (laws_FnExactCargoRun_lo n) (by kernel_rfl) (by kernel_rfl) (by kernel_rfl) laws_FnExactCargoRun_de ((laws_FnExactCargoRun_tie n aList0 aOps1 aLean2).trans h)
theorem entsOk (n : Nat) : EntsOk Try.prog (ents n) (ents n) := ⟨laws_szCargoTankS_ok n, laws_szCargoOpS_ok n, laws_toCargoTank_ok n, laws_toCargoTankS_ok n, laws_toCargoOp_ok n, laws_toCargoOpS_ok n, spec_l1In_ok n, spec_TanksOk_ok n, spec_l13Op_ok n, spec_l13In_ok n, spec_l13Burns_ok n, spec_l3Size_ok n, spec_l13Lean_ok n, spec_l13Out_ok n, spec_CargoStep_ok n, spec_CargoRun_ok n, impl_own_impl_CargoTank_ok n, impl_in_ok n, impl_TanksOk_1_ok n, slices_IndexFunc_impl_CargoTank_impl_CargoTank__impl_TanksOk_1_ok n, slices_ContainsFunc_impl_CargoTank_impl_CargoTank__impl_TanksOk_1_ok n, impl_TanksOk_ok n, impl_CargoTank_mayBurn_ok n, impl_leanOf_ok n, impl_size_ok n, impl_CargoTank_out_ok n, impl_CargoStep_ok n, impl_own_int_ok n, impl_CargoRun_ok n, laws_eqCargoTank_ok n, laws_eqCargoTankS_ok n, laws_eqIntS_ok n, laws_eqCargoOp_ok n, laws_eqCargoOpS_ok n, laws_markCargoTankS_ok n, laws_markCargoOpS_ok n, laws_markIntS_ok n, laws_heldCargoTankS_ok n, laws_heldIntS_ok n, laws_FnExactCargoRun_ok n, trivial⟩
theorem sem (n i : Nat) : SemOk (Phi n i) (CallOk Try.prog T) := phiE_ok (entsOk n) i
end Go.Sm.A9
