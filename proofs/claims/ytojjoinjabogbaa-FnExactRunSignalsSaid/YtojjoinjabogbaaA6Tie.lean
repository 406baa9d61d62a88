import Derived.Test.YtojjoinjabogbaaA6Tb
import Derived.KernelRfl
/- Each function's code computes what the plain function computes. -/
set_option linter.unusedSimpArgs false
set_option linter.deprecated false
set_option linter.unusedSectionVars false
set_option linter.unusedVariables false
set_option maxRecDepth 100000
open Go Go.Proofs
noncomputable section
namespace Go.Sm.A6
def laws_szSignalS_dec (res : Res T) : Option Int := match res.rets, res.outs with
  | [a0], [] => (retV (T := T) 3 a0).bind fun r0 => some (r0)
  | _, _ => none
def laws_szSignalS_enc (y : Int) : Res T := ⟨[vR T 3 y], []⟩
theorem laws_szSignalS_de (res : Res T) (y : Int) (h : laws_szSignalS_dec res = some y) : res = laws_szSignalS_enc y := by
  obtain ⟨rets, outs⟩ := res
  unfold laws_szSignalS_dec at h
  dsimp only at h
  split at h
  · obtain ⟨r0, h0, h⟩ := Option.bind_eq_some_iff.1 h
    cases h
    rw [retV_eq ok h0]
    rfl
  · cases h
def laws_toHoist_dec (res : Res T) : Option SHoist := match res.rets, res.outs with
  | [a0], [] => (retV (T := T) 54 a0).bind fun r0 => some (r0)
  | _, _ => none
def laws_toHoist_enc (y : SHoist) : Res T := ⟨[vR T 54 y], []⟩
theorem laws_toHoist_de (res : Res T) (y : SHoist) (h : laws_toHoist_dec res = some y) : res = laws_toHoist_enc y := by
  obtain ⟨rets, outs⟩ := res
  unfold laws_toHoist_dec at h
  dsimp only at h
  split at h
  · obtain ⟨r0, h0, h⟩ := Option.bind_eq_some_iff.1 h
    cases h
    rw [retV_eq ok h0]
    rfl
  · cases h
def laws_toSignal_dec (res : Res T) : Option SSignal := match res.rets, res.outs with
  | [a0], [] => (retV (T := T) 178 a0).bind fun r0 => some (r0)
  | _, _ => none
def laws_toSignal_enc (y : SSignal) : Res T := ⟨[vR T 178 y], []⟩
theorem laws_toSignal_de (res : Res T) (y : SSignal) (h : laws_toSignal_dec res = some y) : res = laws_toSignal_enc y := by
  obtain ⟨rets, outs⟩ := res
  unfold laws_toSignal_dec at h
  dsimp only at h
  split at h
  · obtain ⟨r0, h0, h⟩ := Option.bind_eq_some_iff.1 h
    cases h
    rw [retV_eq ok h0]
    rfl
  · cases h
def laws_toSignalS_dec (res : Res T) : Option (List SSignal) := match res.rets, res.outs with
  | [a0], [] => (retV (T := T) 59 a0).bind fun r0 => some (r0)
  | _, _ => none
def laws_toSignalS_enc (y : List SSignal) : Res T := ⟨[vR T 59 y], []⟩
theorem laws_toSignalS_de (res : Res T) (y : List SSignal) (h : laws_toSignalS_dec res = some y) : res = laws_toSignalS_enc y := by
  obtain ⟨rets, outs⟩ := res
  unfold laws_toSignalS_dec at h
  dsimp only at h
  split at h
  · obtain ⟨r0, h0, h⟩ := Option.bind_eq_some_iff.1 h
    cases h
    rw [retV_eq ok h0]
    rfl
  · cases h
def spec_l1In_dec (res : Res T) : Option Bool := match res.rets, res.outs with
  | [a0], [] => (retV (T := T) 4 a0).bind fun r0 => some (r0)
  | _, _ => none
def spec_l1In_enc (y : Bool) : Res T := ⟨[vR T 4 y], []⟩
theorem spec_l1In_de (res : Res T) (y : Bool) (h : spec_l1In_dec res = some y) : res = spec_l1In_enc y := by
  obtain ⟨rets, outs⟩ := res
  unfold spec_l1In_dec at h
  dsimp only at h
  split at h
  · obtain ⟨r0, h0, h⟩ := Option.bind_eq_some_iff.1 h
    cases h
    rw [retV_eq ok h0]
    rfl
  · cases h
def spec_HoistOk_dec (res : Res T) : Option Bool := match res.rets, res.outs with
  | [a0], [] => (retV (T := T) 4 a0).bind fun r0 => some (r0)
  | _, _ => none
def spec_HoistOk_enc (y : Bool) : Res T := ⟨[vR T 4 y], []⟩
theorem spec_HoistOk_de (res : Res T) (y : Bool) (h : spec_HoistOk_dec res = some y) : res = spec_HoistOk_enc y := by
  obtain ⟨rets, outs⟩ := res
  unfold spec_HoistOk_dec at h
  dsimp only at h
  split at h
  · obtain ⟨r0, h0, h⟩ := Option.bind_eq_some_iff.1 h
    cases h
    rw [retV_eq ok h0]
    rfl
  · cases h
def spec_l20If_dec (res : Res T) : Option (SHoist × Bool) := match res.rets, res.outs with
  | [a0, a1], [] => (retV (T := T) 54 a0).bind fun r0 => (retV (T := T) 4 a1).bind fun r1 => some (r0, r1)
  | _, _ => none
def spec_l20If_enc (y : SHoist × Bool) : Res T := ⟨[vR T 54 y.1, vR T 4 y.2], []⟩
theorem spec_l20If_de (res : Res T) (y : SHoist × Bool) (h : spec_l20If_dec res = some y) : res = spec_l20If_enc y := by
  obtain ⟨rets, outs⟩ := res
  unfold spec_l20If_dec at h
  dsimp only at h
  split at h
  · obtain ⟨r0, h0, h⟩ := Option.bind_eq_some_iff.1 h
    obtain ⟨r1, h1, h⟩ := Option.bind_eq_some_iff.1 h
    cases h
    rw [retV_eq ok h0, retV_eq ok h1]
    rfl
  · cases h
def spec_DoSignal_dec (res : Res T) : Option (SHoist × Bool) := match res.rets, res.outs with
  | [a0, a1], [] => (retV (T := T) 54 a0).bind fun r0 => (retV (T := T) 4 a1).bind fun r1 => some (r0, r1)
  | _, _ => none
def spec_DoSignal_enc (y : SHoist × Bool) : Res T := ⟨[vR T 54 y.1, vR T 4 y.2], []⟩
theorem spec_DoSignal_de (res : Res T) (y : SHoist × Bool) (h : spec_DoSignal_dec res = some y) : res = spec_DoSignal_enc y := by
  obtain ⟨rets, outs⟩ := res
  unfold spec_DoSignal_dec at h
  dsimp only at h
  split at h
  · obtain ⟨r0, h0, h⟩ := Option.bind_eq_some_iff.1 h
    obtain ⟨r1, h1, h⟩ := Option.bind_eq_some_iff.1 h
    cases h
    rw [retV_eq ok h0, retV_eq ok h1]
    rfl
  · cases h
def spec_RunSignals_dec (res : Res T) : Option (SHoist × List Bool) := match res.rets, res.outs with
  | [a0, a1], [] => (retV (T := T) 54 a0).bind fun r0 => (retV (T := T) 55 a1).bind fun r1 => some (r0, r1)
  | _, _ => none
def spec_RunSignals_enc (y : SHoist × List Bool) : Res T := ⟨[vR T 54 y.1, vR T 55 y.2], []⟩
theorem spec_RunSignals_de (res : Res T) (y : SHoist × List Bool) (h : spec_RunSignals_dec res = some y) : res = spec_RunSignals_enc y := by
  obtain ⟨rets, outs⟩ := res
  unfold spec_RunSignals_dec at h
  dsimp only at h
  split at h
  · obtain ⟨r0, h0, h⟩ := Option.bind_eq_some_iff.1 h
    obtain ⟨r1, h1, h⟩ := Option.bind_eq_some_iff.1 h
    cases h
    rw [retV_eq ok h0, retV_eq ok h1]
    rfl
  · cases h
def impl_in_dec (res : Res T) : Option Bool := match res.rets, res.outs with
  | [a0], [] => (retV (T := T) 4 a0).bind fun r0 => some (r0)
  | _, _ => none
def impl_in_enc (y : Bool) : Res T := ⟨[vR T 4 y], []⟩
theorem impl_in_de (res : Res T) (y : Bool) (h : impl_in_dec res = some y) : res = impl_in_enc y := by
  obtain ⟨rets, outs⟩ := res
  unfold impl_in_dec at h
  dsimp only at h
  split at h
  · obtain ⟨r0, h0, h⟩ := Option.bind_eq_some_iff.1 h
    cases h
    rw [retV_eq ok h0]
    rfl
  · cases h
def impl_HoistOk_dec (res : Res T) : Option Bool := match res.rets, res.outs with
  | [a0], [] => (retV (T := T) 4 a0).bind fun r0 => some (r0)
  | _, _ => none
def impl_HoistOk_enc (y : Bool) : Res T := ⟨[vR T 4 y], []⟩
theorem impl_HoistOk_de (res : Res T) (y : Bool) (h : impl_HoistOk_dec res = some y) : res = impl_HoistOk_enc y := by
  obtain ⟨rets, outs⟩ := res
  unfold impl_HoistOk_dec at h
  dsimp only at h
  split at h
  · obtain ⟨r0, h0, h⟩ := Option.bind_eq_some_iff.1 h
    cases h
    rw [retV_eq ok h0]
    rfl
  · cases h
def impl_DoSignal_dec (res : Res T) : Option (SHoist × Bool) := match res.rets, res.outs with
  | [a0, a1], [] => (retV (T := T) 54 a0).bind fun r0 => (retV (T := T) 4 a1).bind fun r1 => some (r0, r1)
  | _, _ => none
def impl_DoSignal_enc (y : SHoist × Bool) : Res T := ⟨[vR T 54 y.1, vR T 4 y.2], []⟩
theorem impl_DoSignal_de (res : Res T) (y : SHoist × Bool) (h : impl_DoSignal_dec res = some y) : res = impl_DoSignal_enc y := by
  obtain ⟨rets, outs⟩ := res
  unfold impl_DoSignal_dec at h
  dsimp only at h
  split at h
  · obtain ⟨r0, h0, h⟩ := Option.bind_eq_some_iff.1 h
    obtain ⟨r1, h1, h⟩ := Option.bind_eq_some_iff.1 h
    cases h
    rw [retV_eq ok h0, retV_eq ok h1]
    rfl
  · cases h
def impl_own_bool_dec (res : Res T) : Option (List Bool) := match res.rets, res.outs with
  | [a0], [] => (retV (T := T) 55 a0).bind fun r0 => some (r0)
  | _, _ => none
def impl_own_bool_enc (y : List Bool) : Res T := ⟨[vR T 55 y], []⟩
theorem impl_own_bool_de (res : Res T) (y : List Bool) (h : impl_own_bool_dec res = some y) : res = impl_own_bool_enc y := by
  obtain ⟨rets, outs⟩ := res
  unfold impl_own_bool_dec at h
  dsimp only at h
  split at h
  · obtain ⟨r0, h0, h⟩ := Option.bind_eq_some_iff.1 h
    cases h
    rw [retV_eq ok h0]
    rfl
  · cases h
def impl_RunSignals_dec (res : Res T) : Option (SHoist × List Bool) := match res.rets, res.outs with
  | [a0, a1], [] => (retV (T := T) 54 a0).bind fun r0 => (retV (T := T) 55 a1).bind fun r1 => some (r0, r1)
  | _, _ => none
def impl_RunSignals_enc (y : SHoist × List Bool) : Res T := ⟨[vR T 54 y.1, vR T 55 y.2], []⟩
theorem impl_RunSignals_de (res : Res T) (y : SHoist × List Bool) (h : impl_RunSignals_dec res = some y) : res = impl_RunSignals_enc y := by
  obtain ⟨rets, outs⟩ := res
  unfold impl_RunSignals_dec at h
  dsimp only at h
  split at h
  · obtain ⟨r0, h0, h⟩ := Option.bind_eq_some_iff.1 h
    obtain ⟨r1, h1, h⟩ := Option.bind_eq_some_iff.1 h
    cases h
    rw [retV_eq ok h0, retV_eq ok h1]
    rfl
  · cases h
def laws_eqHoist_dec (res : Res T) : Option Bool := match res.rets, res.outs with
  | [a0], [] => (retV (T := T) 4 a0).bind fun r0 => some (r0)
  | _, _ => none
def laws_eqHoist_enc (y : Bool) : Res T := ⟨[vR T 4 y], []⟩
theorem laws_eqHoist_de (res : Res T) (y : Bool) (h : laws_eqHoist_dec res = some y) : res = laws_eqHoist_enc y := by
  obtain ⟨rets, outs⟩ := res
  unfold laws_eqHoist_dec at h
  dsimp only at h
  split at h
  · obtain ⟨r0, h0, h⟩ := Option.bind_eq_some_iff.1 h
    cases h
    rw [retV_eq ok h0]
    rfl
  · cases h
def laws_eqBoolS_dec (res : Res T) : Option Bool := match res.rets, res.outs with
  | [a0], [] => (retV (T := T) 4 a0).bind fun r0 => some (r0)
  | _, _ => none
def laws_eqBoolS_enc (y : Bool) : Res T := ⟨[vR T 4 y], []⟩
theorem laws_eqBoolS_de (res : Res T) (y : Bool) (h : laws_eqBoolS_dec res = some y) : res = laws_eqBoolS_enc y := by
  obtain ⟨rets, outs⟩ := res
  unfold laws_eqBoolS_dec at h
  dsimp only at h
  split at h
  · obtain ⟨r0, h0, h⟩ := Option.bind_eq_some_iff.1 h
    cases h
    rw [retV_eq ok h0]
    rfl
  · cases h
def laws_eqSignal_dec (res : Res T) : Option Bool := match res.rets, res.outs with
  | [a0], [] => (retV (T := T) 4 a0).bind fun r0 => some (r0)
  | _, _ => none
def laws_eqSignal_enc (y : Bool) : Res T := ⟨[vR T 4 y], []⟩
theorem laws_eqSignal_de (res : Res T) (y : Bool) (h : laws_eqSignal_dec res = some y) : res = laws_eqSignal_enc y := by
  obtain ⟨rets, outs⟩ := res
  unfold laws_eqSignal_dec at h
  dsimp only at h
  split at h
  · obtain ⟨r0, h0, h⟩ := Option.bind_eq_some_iff.1 h
    cases h
    rw [retV_eq ok h0]
    rfl
  · cases h
def laws_eqSignalS_dec (res : Res T) : Option Bool := match res.rets, res.outs with
  | [a0], [] => (retV (T := T) 4 a0).bind fun r0 => some (r0)
  | _, _ => none
def laws_eqSignalS_enc (y : Bool) : Res T := ⟨[vR T 4 y], []⟩
theorem laws_eqSignalS_de (res : Res T) (y : Bool) (h : laws_eqSignalS_dec res = some y) : res = laws_eqSignalS_enc y := by
  obtain ⟨rets, outs⟩ := res
  unfold laws_eqSignalS_dec at h
  dsimp only at h
  split at h
  · obtain ⟨r0, h0, h⟩ := Option.bind_eq_some_iff.1 h
    cases h
    rw [retV_eq ok h0]
    rfl
  · cases h
def laws_markSignalS_dec (res : Res T) : Option (Int × List SSignal) := match res.rets, res.outs with
  | [a0], [b0] => (retV (T := T) 3 a0).bind fun r0 => (outS (T := T) 178 b0).bind fun r1 => some (r0, r1)
  | _, _ => none
def laws_markSignalS_enc (y : Int × List SSignal) : Res T := ⟨[vR T 3 y.1], [.sl 178 y.2]⟩
theorem laws_markSignalS_de (res : Res T) (y : Int × List SSignal) (h : laws_markSignalS_dec res = some y) : res = laws_markSignalS_enc y := by
  obtain ⟨rets, outs⟩ := res
  unfold laws_markSignalS_dec at h
  dsimp only at h
  split at h
  · obtain ⟨r0, h0, h⟩ := Option.bind_eq_some_iff.1 h
    obtain ⟨r1, h1, h⟩ := Option.bind_eq_some_iff.1 h
    cases h
    rw [retV_eq ok h0, outS_eq h1]
    rfl
  · cases h
def laws_markBoolS_dec (res : Res T) : Option (Int × List Bool) := match res.rets, res.outs with
  | [a0], [b0] => (retV (T := T) 3 a0).bind fun r0 => (outS (T := T) 4 b0).bind fun r1 => some (r0, r1)
  | _, _ => none
def laws_markBoolS_enc (y : Int × List Bool) : Res T := ⟨[vR T 3 y.1], [.sl 4 y.2]⟩
theorem laws_markBoolS_de (res : Res T) (y : Int × List Bool) (h : laws_markBoolS_dec res = some y) : res = laws_markBoolS_enc y := by
  obtain ⟨rets, outs⟩ := res
  unfold laws_markBoolS_dec at h
  dsimp only at h
  split at h
  · obtain ⟨r0, h0, h⟩ := Option.bind_eq_some_iff.1 h
    obtain ⟨r1, h1, h⟩ := Option.bind_eq_some_iff.1 h
    cases h
    rw [retV_eq ok h0, outS_eq h1]
    rfl
  · cases h
def laws_heldBoolS_dec (res : Res T) : Option Int := match res.rets, res.outs with
  | [a0], [] => (retV (T := T) 3 a0).bind fun r0 => some (r0)
  | _, _ => none
def laws_heldBoolS_enc (y : Int) : Res T := ⟨[vR T 3 y], []⟩
theorem laws_heldBoolS_de (res : Res T) (y : Int) (h : laws_heldBoolS_dec res = some y) : res = laws_heldBoolS_enc y := by
  obtain ⟨rets, outs⟩ := res
  unfold laws_heldBoolS_dec at h
  dsimp only at h
  split at h
  · obtain ⟨r0, h0, h⟩ := Option.bind_eq_some_iff.1 h
    cases h
    rw [retV_eq ok h0]
    rfl
  · cases h
def laws_FnExactRunSignals_dec (res : Res T) : Option Bool := match res.rets, res.outs with
  | [a0], [] => (retV (T := T) 4 a0).bind fun r0 => some (r0)
  | _, _ => none
def laws_FnExactRunSignals_enc (y : Bool) : Res T := ⟨[vR T 4 y], []⟩
theorem laws_FnExactRunSignals_de (res : Res T) (y : Bool) (h : laws_FnExactRunSignals_dec res = some y) : res = laws_FnExactRunSignals_enc y := by
  obtain ⟨rets, outs⟩ := res
  unfold laws_FnExactRunSignals_dec at h
  dsimp only at h
  split at h
  · obtain ⟨r0, h0, h⟩ := Option.bind_eq_some_iff.1 h
    cases h
    rw [retV_eq ok h0]
    rfl
  · cases h
def laws_szSignalS_D (n : Nat) (ar : List (A T)) : Option Int := match ar with
  | [a0, a1] => (argV (T := T) 52 a0).bind fun a0 => (argV (T := T) 3 a1).bind fun left1 => laws_szSignalS n a0 left1
  | _ => none
def laws_szSignalS_ent (n : Nat) : Ent T := ⟨37, 0, [], Int, laws_szSignalS_D n, laws_szSignalS_enc⟩
def laws_toHoist_D (n : Nat) (ar : List (A T)) : Option SHoist := match ar with
  | [a0] => (argV (T := T) 51 a0).bind fun a0 => laws_toHoist n a0
  | _ => none
def laws_toHoist_ent (n : Nat) : Ent T := ⟨39, 1, [], SHoist, laws_toHoist_D n, laws_toHoist_enc⟩
def laws_toSignal_D (n : Nat) (ar : List (A T)) : Option SSignal := match ar with
  | [a0] => (argV (T := T) 180 a0).bind fun a0 => laws_toSignal n a0
  | _ => none
def laws_toSignal_ent (n : Nat) : Ent T := ⟨130, 2, [], SSignal, laws_toSignal_D n, laws_toSignal_enc⟩
def laws_toSignalS_D (n : Nat) (ar : List (A T)) : Option (List SSignal) := match ar with
  | [a0] => (argV (T := T) 52 a0).bind fun a0 => laws_toSignalS n a0
  | _ => none
def laws_toSignalS_ent (n : Nat) : Ent T := ⟨40, 3, [], List SSignal, laws_toSignalS_D n, laws_toSignalS_enc⟩
def spec_l1In_D (n : Nat) (ar : List (A T)) : Option Bool := match ar with
  | [a0, a1, a2] => (argV (T := T) 3 a0).bind fun x0 => (argV (T := T) 3 a1).bind fun a1 => (argV (T := T) 3 a2).bind fun b2 => spec_l1In n x0 a1 b2
  | _ => none
def spec_l1In_ent (n : Nat) : Ent T := ⟨101, 4, [], Bool, spec_l1In_D n, spec_l1In_enc⟩
def spec_HoistOk_D (n : Nat) (ar : List (A T)) : Option Bool := match ar with
  | [a0] => (argV (T := T) 54 a0).bind fun h0 => spec_HoistOk n h0
  | _ => none
def spec_HoistOk_ent (n : Nat) : Ent T := ⟨216, 5, [], Bool, spec_HoistOk_D n, spec_HoistOk_enc⟩
def spec_l20If_D (n : Nat) (ar : List (A T)) : Option (SHoist × Bool) := match ar with
  | [a0, a1, a2] => (argV (T := T) 54 a0).bind fun h0 => (argV (T := T) 54 a1).bind fun next1 => (argV (T := T) 4 a2).bind fun ok2 => spec_l20If n h0 next1 ok2
  | _ => none
def spec_l20If_ent (n : Nat) : Ent T := ⟨217, 6, [], SHoist × Bool, spec_l20If_D n, spec_l20If_enc⟩
def spec_DoSignal_D (n : Nat) (ar : List (A T)) : Option (SHoist × Bool) := match ar with
  | [a0, a1] => (argV (T := T) 54 a0).bind fun h0 => (argV (T := T) 178 a1).bind fun s1 => spec_DoSignal n h0 s1
  | _ => none
def spec_DoSignal_ent (n : Nat) : Ent T := ⟨129, 7, [], SHoist × Bool, spec_DoSignal_D n, spec_DoSignal_enc⟩
def spec_RunSignals_D (n : Nat) (ar : List (A T)) : Option (SHoist × List Bool) := match ar with
  | [a0, a1] => (argV (T := T) 54 a0).bind fun h0 => (argV (T := T) 59 a1).bind fun list1 => spec_RunSignals n h0 list1
  | _ => none
def spec_RunSignals_ent (n : Nat) : Ent T := ⟨38, 8, [], SHoist × List Bool, spec_RunSignals_D n, spec_RunSignals_enc⟩
def impl_in_D (n : Nat) (ar : List (A T)) : Option Bool := match ar with
  | [a0, a1, a2] => (argV (T := T) 3 a0).bind fun n0 => (argV (T := T) 3 a1).bind fun least1 => (argV (T := T) 3 a2).bind fun most2 => impl_in n n0 least1 most2
  | _ => none
def impl_in_ent (n : Nat) : Ent T := ⟨113, 9, [], Bool, impl_in_D n, impl_in_enc⟩
def impl_HoistOk_D (n : Nat) (ar : List (A T)) : Option Bool := match ar with
  | [a0] => (argV (T := T) 54 a0).bind fun h0 => impl_HoistOk n h0
  | _ => none
def impl_HoistOk_ent (n : Nat) : Ent T := ⟨218, 10, [], Bool, impl_HoistOk_D n, impl_HoistOk_enc⟩
def impl_DoSignal_D (n : Nat) (ar : List (A T)) : Option (SHoist × Bool) := match ar with
  | [a0, a1] => (argV (T := T) 54 a0).bind fun h0 => (argV (T := T) 178 a1).bind fun s1 => impl_DoSignal n h0 s1
  | _ => none
def impl_DoSignal_ent (n : Nat) : Ent T := ⟨131, 11, [], SHoist × Bool, impl_DoSignal_D n, impl_DoSignal_enc⟩
def impl_own_bool_D (n : Nat) (ar : List (A T)) : Option (List Bool) := match ar with
  | [a0] => (argV (T := T) 55 a0).bind fun l0 => impl_own_bool n l0
  | _ => none
def impl_own_bool_ent (n : Nat) : Ent T := ⟨132, 12, [], List Bool, impl_own_bool_D n, impl_own_bool_enc⟩
def impl_RunSignals_D (n : Nat) (ar : List (A T)) : Option (SHoist × List Bool) := match ar with
  | [a0, a1] => (argV (T := T) 54 a0).bind fun h0 => (argV (T := T) 59 a1).bind fun list1 => impl_RunSignals n h0 list1
  | _ => none
def impl_RunSignals_ent (n : Nat) : Ent T := ⟨41, 13, [], SHoist × List Bool, impl_RunSignals_D n, impl_RunSignals_enc⟩
def laws_eqHoist_D (n : Nat) (ar : List (A T)) : Option Bool := match ar with
  | [a0, a1] => (argV (T := T) 54 a0).bind fun a0 => (argV (T := T) 54 a1).bind fun b1 => laws_eqHoist n a0 b1
  | _ => none
def laws_eqHoist_ent (n : Nat) : Ent T := ⟨42, 14, [], Bool, laws_eqHoist_D n, laws_eqHoist_enc⟩
def laws_eqBoolS_D (n : Nat) (ar : List (A T)) : Option Bool := match ar with
  | [a0, a1] => (argV (T := T) 55 a0).bind fun a0 => (argV (T := T) 55 a1).bind fun b1 => laws_eqBoolS n a0 b1
  | _ => none
def laws_eqBoolS_ent (n : Nat) : Ent T := ⟨43, 15, [], Bool, laws_eqBoolS_D n, laws_eqBoolS_enc⟩
def laws_eqSignal_D (n : Nat) (ar : List (A T)) : Option Bool := match ar with
  | [a0, a1] => (argV (T := T) 178 a0).bind fun a0 => (argV (T := T) 178 a1).bind fun b1 => laws_eqSignal n a0 b1
  | _ => none
def laws_eqSignal_ent (n : Nat) : Ent T := ⟨133, 16, [], Bool, laws_eqSignal_D n, laws_eqSignal_enc⟩
def laws_eqSignalS_D (n : Nat) (ar : List (A T)) : Option Bool := match ar with
  | [a0, a1] => (argV (T := T) 59 a0).bind fun a0 => (argV (T := T) 59 a1).bind fun b1 => laws_eqSignalS n a0 b1
  | _ => none
def laws_eqSignalS_ent (n : Nat) : Ent T := ⟨44, 17, [], Bool, laws_eqSignalS_D n, laws_eqSignalS_enc⟩
def laws_markSignalS_D (n : Nat) (ar : List (A T)) : Option (Int × List SSignal) := match ar with
  | [a0, a1] => (argV (T := T) 59 a0).bind fun a0 => (argV (T := T) 3 a1).bind fun k1 => laws_markSignalS n a0 k1
  | _ => none
def laws_markSignalS_ent (n : Nat) : Ent T := ⟨45, 18, [], Int × List SSignal, laws_markSignalS_D n, laws_markSignalS_enc⟩
def laws_markBoolS_D (n : Nat) (ar : List (A T)) : Option (Int × List Bool) := match ar with
  | [a0, a1] => (argV (T := T) 55 a0).bind fun a0 => (argV (T := T) 3 a1).bind fun k1 => laws_markBoolS n a0 k1
  | _ => none
def laws_markBoolS_ent (n : Nat) : Ent T := ⟨46, 19, [], Int × List Bool, laws_markBoolS_D n, laws_markBoolS_enc⟩
def laws_heldBoolS_D (n : Nat) (ar : List (A T)) : Option Int := match ar with
  | [a0, a1] => (argV (T := T) 55 a0).bind fun a0 => (argV (T := T) 3 a1).bind fun k1 => laws_heldBoolS n a0 k1
  | _ => none
def laws_heldBoolS_ent (n : Nat) : Ent T := ⟨47, 20, [], Int, laws_heldBoolS_D n, laws_heldBoolS_enc⟩
def laws_FnExactRunSignals_D (n : Nat) (ar : List (A T)) : Option Bool := match ar with
  | [a0, a1] => (argV (T := T) 51 a0).bind fun aH0 => (argV (T := T) 52 a1).bind fun aList1 => laws_FnExactRunSignals n aH0 aList1
  | _ => none
def laws_FnExactRunSignals_ent (n : Nat) : Ent T := ⟨6, 21, [], Bool, laws_FnExactRunSignals_D n, laws_FnExactRunSignals_enc⟩
def ents (n : Nat) : List (Ent T) := [laws_szSignalS_ent n, laws_toHoist_ent n, laws_toSignal_ent n, laws_toSignalS_ent n, spec_l1In_ent n, spec_HoistOk_ent n, spec_l20If_ent n, spec_DoSignal_ent n, spec_RunSignals_ent n, impl_in_ent n, impl_HoistOk_ent n, impl_DoSignal_ent n, impl_own_bool_ent n, impl_RunSignals_ent n, laws_eqHoist_ent n, laws_eqBoolS_ent n, laws_eqSignal_ent n, laws_eqSignalS_ent n, laws_markSignalS_ent n, laws_markBoolS_ent n, laws_heldBoolS_ent n, laws_FnExactRunSignals_ent n]
abbrev Phi (n i : Nat) {R : Type} (f : Nat) (ar : List (A T)) (K : Res T → Option R) : Option R := PhiE (ents n) i f ar K
theorem mixed : Try.prog.follows .mixedOrders = true := by kernel_rfl
noncomputable def laws_szSignalS_code : Code := match Try.f37.body with | some c => c | none => .skip
def laws_szSignalS_ann : Ann := fun id => none
def laws_szSignalS_Ls (n : Nat) : Nat → Option (LSpec T) := fun id => none
theorem laws_szSignalS_tie (n : Nat) (a0 : List SSignal) (left1 : Int) : evF (T := T) (Phi n 0) (laws_szSignalS_Ls n) laws_szSignalS_ann n Try.f37 (sg 37) [vA T 52 a0, vA T 3 left1] laws_szSignalS_dec = laws_szSignalS n a0 left1 := by kernel_rfl
theorem laws_szSignalS_lo (n : Nat) : LoopsOk (T := T) (Phi n 0) (laws_szSignalS_Ls n) laws_szSignalS_ann n laws_szSignalS_code := loopsOk_all (cs := []) (by kernel_rfl) trivial
theorem laws_szSignalS_ok (n : Nat) : EntOk Try.prog (ents n) (laws_szSignalS_ent n) := by
  intro hs ar y hg h
  replace h : laws_szSignalS_D n ar = some y := h
  unfold laws_szSignalS_D at h
  split at h
  · obtain ⟨a0, qh0, h⟩ := Option.bind_eq_some_iff.1 h
    obtain ⟨left1, qh1, h⟩ := Option.bind_eq_some_iff.1 h
    rw [argV_eq ok qh0, argV_eq ok qh1]
    exact call_of (phiE_nat _ _) hs ok mixed Try.func37 (c := laws_szSignalS_code) (by kernel_rfl) (laws_szSignalS_lo n) (by kernel_rfl) (by kernel_rfl) (by kernel_rfl) laws_szSignalS_de ((laws_szSignalS_tie n a0 left1).trans h)
  · cases h
noncomputable def laws_toHoist_code : Code := match Try.f39.body with | some c => c | none => .skip
def laws_toHoist_ann : Ann := fun id => none
def laws_toHoist_Ls (n : Nat) : Nat → Option (LSpec T) := fun id => none
theorem laws_toHoist_tie (n : Nat) (a0 : SHoist) : evF (T := T) (Phi n 1) (laws_toHoist_Ls n) laws_toHoist_ann n Try.f39 (sg 39) [vA T 51 a0] laws_toHoist_dec = laws_toHoist n a0 := by kernel_rfl
theorem laws_toHoist_lo (n : Nat) : LoopsOk (T := T) (Phi n 1) (laws_toHoist_Ls n) laws_toHoist_ann n laws_toHoist_code := loopsOk_all (cs := []) (by kernel_rfl) trivial
theorem laws_toHoist_ok (n : Nat) : EntOk Try.prog (ents n) (laws_toHoist_ent n) := by
  intro hs ar y hg h
  replace h : laws_toHoist_D n ar = some y := h
  unfold laws_toHoist_D at h
  split at h
  · obtain ⟨a0, qh0, h⟩ := Option.bind_eq_some_iff.1 h
    rw [argV_eq ok qh0]
    exact call_of (phiE_nat _ _) hs ok mixed Try.func39 (c := laws_toHoist_code) (by kernel_rfl) (laws_toHoist_lo n) (by kernel_rfl) (by kernel_rfl) (by kernel_rfl) laws_toHoist_de ((laws_toHoist_tie n a0).trans h)
  · cases h
noncomputable def laws_toSignal_code : Code := match Try.f130.body with | some c => c | none => .skip
def laws_toSignal_ann : Ann := fun id => none
def laws_toSignal_Ls (n : Nat) : Nat → Option (LSpec T) := fun id => none
theorem laws_toSignal_tie (n : Nat) (a0 : SSignal) : evF (T := T) (Phi n 2) (laws_toSignal_Ls n) laws_toSignal_ann n Try.f130 (sg 130) [vA T 180 a0] laws_toSignal_dec = laws_toSignal n a0 := by kernel_rfl
theorem laws_toSignal_lo (n : Nat) : LoopsOk (T := T) (Phi n 2) (laws_toSignal_Ls n) laws_toSignal_ann n laws_toSignal_code := loopsOk_all (cs := []) (by kernel_rfl) trivial
theorem laws_toSignal_ok (n : Nat) : EntOk Try.prog (ents n) (laws_toSignal_ent n) := by
  intro hs ar y hg h
  replace h : laws_toSignal_D n ar = some y := h
  unfold laws_toSignal_D at h
  split at h
  · obtain ⟨a0, qh0, h⟩ := Option.bind_eq_some_iff.1 h
    rw [argV_eq ok qh0]
    exact call_of (phiE_nat _ _) hs ok mixed Try.func130 (c := laws_toSignal_code) (by kernel_rfl) (laws_toSignal_lo n) (by kernel_rfl) (by kernel_rfl) (by kernel_rfl) laws_toSignal_de ((laws_toSignal_tie n a0).trans h)
  · cases h
noncomputable def laws_toSignalS_code : Code := match Try.f40.body with | some c => c | none => .skip
def laws_toSignalS_3_sv : List Sv := [.one (.arr 180), .one (.own 3000000 178 false), .one (.int .i64)]
def laws_toSignalS_3_so : List So := [.arr 178 false]
def laws_toSignalS_3_emb (c : List SSignal) (x : Int × List SSignal) : EVs T laws_toSignalS_3_sv × EOs T laws_toSignalS_3_so := ((c, (), x.1, ()), (x.2, ()))
def laws_toSignalS_3_prj (y : EVs T laws_toSignalS_3_sv × EOs T laws_toSignalS_3_so) : List SSignal × (Int × List SSignal) := ((y.1.1), (y.1.2.2.1, y.2.1))
def laws_toSignalS_3_b (n : Nat) {R : Type} (K : Ex → Sm.St T → Option R) (c : List SSignal) (x : Int × List SSignal) (J : (Int × List SSignal) → Option R) : Option R :=
  laws_toSignalS_L3 n (fun (y0 : List SSignal) => K (.exit 0) (stOf (T := T) [3] [3000000] [.one (.own 3000000 178 false)] [.arr 178 false] ((), ()) (y0, ()))) (fun z0 z1 => J (z0, z1)) c x.1 x.2
def laws_toSignalS_3_sp (n : Nat) : LSpec T := mkSpec T ⟨[((.reg 3), 3000000, 178)], [0, 3, 4], [3000000]⟩ laws_toSignalS_3_sv laws_toSignalS_3_so (List SSignal) (Int × List SSignal) laws_toSignalS_3_emb laws_toSignalS_3_prj (laws_toSignalS_3_b n)
noncomputable def laws_toSignalS_3_c : Code := ((loopCodes laws_toSignalS_code)[0]?).getD .skip
def laws_toSignalS_ann : Ann := fun id => bif Nat.beq id 3000003 then some ⟨[((.reg 3), 3000000, 178)], [3], [3000000]⟩ else none
def laws_toSignalS_Ls (n : Nat) : Nat → Option (LSpec T) := fun id => bif Nat.beq id 3 then some (laws_toSignalS_3_sp n) else none
theorem laws_toSignalS_3_le (n : Nat) : LoopEq (T := T) (Phi n 3) (laws_toSignalS_Ls n) laws_toSignalS_ann n laws_toSignalS_3_c (laws_toSignalS_3_sp n) := ⟨mkSpec_dec (fun y => rfl), fun c x => by kernel_rfl, fun K J c x => by kernel_rfl⟩
theorem laws_toSignalS_tie (n : Nat) (a0 : List SSignal) : evF (T := T) (Phi n 3) (laws_toSignalS_Ls n) laws_toSignalS_ann n Try.f40 (sg 40) [vA T 52 a0] laws_toSignalS_dec = laws_toSignalS n a0 := by kernel_rfl
theorem laws_toSignalS_lo (n : Nat) : LoopsOk (T := T) (Phi n 3) (laws_toSignalS_Ls n) laws_toSignalS_ann n laws_toSignalS_code := loopsOk_all (cs := [laws_toSignalS_3_c]) (by kernel_rfl) ⟨⟨_, by kernel_rfl, laws_toSignalS_3_le n⟩, trivial⟩
theorem laws_toSignalS_ok (n : Nat) : EntOk Try.prog (ents n) (laws_toSignalS_ent n) := by
  intro hs ar y hg h
  replace h : laws_toSignalS_D n ar = some y := h
  unfold laws_toSignalS_D at h
  split at h
  · obtain ⟨a0, qh0, h⟩ := Option.bind_eq_some_iff.1 h
    rw [argV_eq ok qh0]
    exact call_of (phiE_nat _ _) hs ok mixed Try.func40 (c := laws_toSignalS_code) (by kernel_rfl) (laws_toSignalS_lo n) (by kernel_rfl) (by kernel_rfl) (by kernel_rfl) laws_toSignalS_de ((laws_toSignalS_tie n a0).trans h)
  · cases h
noncomputable def spec_l1In_code : Code := match Try.f101.body with | some c => c | none => .skip
def spec_l1In_ann : Ann := fun id => none
def spec_l1In_Ls (n : Nat) : Nat → Option (LSpec T) := fun id => none
theorem spec_l1In_tie (n : Nat) (x0 : Int) (a1 : Int) (b2 : Int) : evF (T := T) (Phi n 4) (spec_l1In_Ls n) spec_l1In_ann n Try.f101 (sg 101) [vA T 3 x0, vA T 3 a1, vA T 3 b2] spec_l1In_dec = spec_l1In n x0 a1 b2 := by kernel_rfl
theorem spec_l1In_lo (n : Nat) : LoopsOk (T := T) (Phi n 4) (spec_l1In_Ls n) spec_l1In_ann n spec_l1In_code := loopsOk_all (cs := []) (by kernel_rfl) trivial
theorem spec_l1In_ok (n : Nat) : EntOk Try.prog (ents n) (spec_l1In_ent n) := by
  intro hs ar y hg h
  replace h : spec_l1In_D n ar = some y := h
  unfold spec_l1In_D at h
  split at h
  · obtain ⟨x0, qh0, h⟩ := Option.bind_eq_some_iff.1 h
    obtain ⟨a1, qh1, h⟩ := Option.bind_eq_some_iff.1 h
    obtain ⟨b2, qh2, h⟩ := Option.bind_eq_some_iff.1 h
    rw [argV_eq ok qh0, argV_eq ok qh1, argV_eq ok qh2]
    exact call_of (phiE_nat _ _) hs ok mixed Try.func101 (c := spec_l1In_code) (by kernel_rfl) (spec_l1In_lo n) (by kernel_rfl) (by kernel_rfl) (by kernel_rfl) spec_l1In_de ((spec_l1In_tie n x0 a1 b2).trans h)
  · cases h
noncomputable def spec_HoistOk_code : Code := match Try.f216.body with | some c => c | none => .skip
def spec_HoistOk_ann : Ann := fun id => none
def spec_HoistOk_Ls (n : Nat) : Nat → Option (LSpec T) := fun id => none
theorem spec_HoistOk_tie (n : Nat) (h0 : SHoist) : evF (T := T) (Phi n 5) (spec_HoistOk_Ls n) spec_HoistOk_ann n Try.f216 (sg 216) [vA T 54 h0] spec_HoistOk_dec = spec_HoistOk n h0 := by kernel_rfl
theorem spec_HoistOk_lo (n : Nat) : LoopsOk (T := T) (Phi n 5) (spec_HoistOk_Ls n) spec_HoistOk_ann n spec_HoistOk_code := loopsOk_all (cs := []) (by kernel_rfl) trivial
theorem spec_HoistOk_ok (n : Nat) : EntOk Try.prog (ents n) (spec_HoistOk_ent n) := by
  intro hs ar y hg h
  replace h : spec_HoistOk_D n ar = some y := h
  unfold spec_HoistOk_D at h
  split at h
  · obtain ⟨h0, qh0, h⟩ := Option.bind_eq_some_iff.1 h
    rw [argV_eq ok qh0]
    exact call_of (phiE_nat _ _) hs ok mixed Try.func216 (c := spec_HoistOk_code) (by kernel_rfl) (spec_HoistOk_lo n) (by kernel_rfl) (by kernel_rfl) (by kernel_rfl) spec_HoistOk_de ((spec_HoistOk_tie n h0).trans h)
  · cases h
noncomputable def spec_l20If_code : Code := match Try.f217.body with | some c => c | none => .skip
def spec_l20If_ann : Ann := fun id => none
def spec_l20If_Ls (n : Nat) : Nat → Option (LSpec T) := fun id => none
theorem spec_l20If_tie (n : Nat) (h0 : SHoist) (next1 : SHoist) (ok2 : Bool) : evF (T := T) (Phi n 6) (spec_l20If_Ls n) spec_l20If_ann n Try.f217 (sg 217) [vA T 54 h0, vA T 54 next1, vA T 4 ok2] spec_l20If_dec = spec_l20If n h0 next1 ok2 := by kernel_rfl
theorem spec_l20If_lo (n : Nat) : LoopsOk (T := T) (Phi n 6) (spec_l20If_Ls n) spec_l20If_ann n spec_l20If_code := loopsOk_all (cs := []) (by kernel_rfl) trivial
theorem spec_l20If_ok (n : Nat) : EntOk Try.prog (ents n) (spec_l20If_ent n) := by
  intro hs ar y hg h
  replace h : spec_l20If_D n ar = some y := h
  unfold spec_l20If_D at h
  split at h
  · obtain ⟨h0, qh0, h⟩ := Option.bind_eq_some_iff.1 h
    obtain ⟨next1, qh1, h⟩ := Option.bind_eq_some_iff.1 h
    obtain ⟨ok2, qh2, h⟩ := Option.bind_eq_some_iff.1 h
    rw [argV_eq ok qh0, argV_eq ok qh1, argV_eq ok qh2]
    exact call_of (phiE_nat _ _) hs ok mixed Try.func217 (c := spec_l20If_code) (by kernel_rfl) (spec_l20If_lo n) (by kernel_rfl) (by kernel_rfl) (by kernel_rfl) spec_l20If_de ((spec_l20If_tie n h0 next1 ok2).trans h)
  · cases h
noncomputable def spec_DoSignal_code : Code := match Try.f129.body with | some c => c | none => .skip
def spec_DoSignal_ann : Ann := fun id => none
def spec_DoSignal_Ls (n : Nat) : Nat → Option (LSpec T) := fun id => none
theorem spec_DoSignal_tie (n : Nat) (h0 : SHoist) (s1 : SSignal) : evF (T := T) (Phi n 7) (spec_DoSignal_Ls n) spec_DoSignal_ann n Try.f129 (sg 129) [vA T 54 h0, vA T 178 s1] spec_DoSignal_dec = spec_DoSignal n h0 s1 := by kernel_rfl
theorem spec_DoSignal_lo (n : Nat) : LoopsOk (T := T) (Phi n 7) (spec_DoSignal_Ls n) spec_DoSignal_ann n spec_DoSignal_code := loopsOk_all (cs := []) (by kernel_rfl) trivial
theorem spec_DoSignal_ok (n : Nat) : EntOk Try.prog (ents n) (spec_DoSignal_ent n) := by
  intro hs ar y hg h
  replace h : spec_DoSignal_D n ar = some y := h
  unfold spec_DoSignal_D at h
  split at h
  · obtain ⟨h0, qh0, h⟩ := Option.bind_eq_some_iff.1 h
    obtain ⟨s1, qh1, h⟩ := Option.bind_eq_some_iff.1 h
    rw [argV_eq ok qh0, argV_eq ok qh1]
    exact call_of (phiE_nat _ _) hs ok mixed Try.func129 (c := spec_DoSignal_code) (by kernel_rfl) (spec_DoSignal_lo n) (by kernel_rfl) (by kernel_rfl) (by kernel_rfl) spec_DoSignal_de ((spec_DoSignal_tie n h0 s1).trans h)
  · cases h
noncomputable def spec_RunSignals_code : Code := match Try.f38.body with | some c => c | none => .skip
def spec_RunSignals_3_sv : List Sv := [.one (.arr 178), .one (.ptr 16 0 0), .one (.ptr 32 0 0), .one (.own 3000000 4 false), .one (.int .i64)]
def spec_RunSignals_3_so : List So := [.var [.int .i64, .int .i64, .int .i64, .int .i64, .int .i64, .int .i64, .int .i64], .var [.int .i64, .int .i64, .int .i64, .int .i64, .int .i64, .int .i64, .int .i64], .arr 4 false]
def spec_RunSignals_3_emb (c : List SSignal × SHoist) (x : Int × SHoist × List Bool) : EVs T spec_RunSignals_3_sv × EOs T spec_RunSignals_3_so := ((c.1, (), (), (), x.1, ()), ((x.2.1.State, x.2.1.Load, x.2.1.Height, x.2.1.Lowest, x.2.1.Highest, x.2.1.Limit, x.2.1.Reset, ()), (c.2.State, c.2.Load, c.2.Height, c.2.Lowest, c.2.Highest, c.2.Limit, c.2.Reset, ()), x.2.2, ()))
def spec_RunSignals_3_prj (y : EVs T spec_RunSignals_3_sv × EOs T spec_RunSignals_3_so) : (List SSignal × SHoist) × (Int × SHoist × List Bool) := ((y.1.1, ((⟨y.2.2.1.1, y.2.2.1.2.1, y.2.2.1.2.2.1, y.2.2.1.2.2.2.1, y.2.2.1.2.2.2.2.1, y.2.2.1.2.2.2.2.2.1, y.2.2.1.2.2.2.2.2.2.1⟩ : SHoist) : SHoist)), (y.1.2.2.2.2.1, ((⟨y.2.1.1, y.2.1.2.1, y.2.1.2.2.1, y.2.1.2.2.2.1, y.2.1.2.2.2.2.1, y.2.1.2.2.2.2.2.1, y.2.1.2.2.2.2.2.2.1⟩ : SHoist) : SHoist), y.2.2.2.1))
def spec_RunSignals_3_b (n : Nat) {R : Type} (K : Ex → Sm.St T → Option R) (c : List SSignal × SHoist) (x : Int × SHoist × List Bool) (J : (Int × SHoist × List Bool) → Option R) : Option R :=
  spec_RunSignals_L3 n (fun (y0 : SHoist) (y2 : List Bool) => K (.exit 0) (stOf (T := T) [2, 4, 6] [16, 32, 3000000] [.one (.ptr 16 0 0), .one (.ptr 32 0 0), .one (.own 3000000 4 false)] [.var [.int .i64, .int .i64, .int .i64, .int .i64, .int .i64, .int .i64, .int .i64], .var [.int .i64, .int .i64, .int .i64, .int .i64, .int .i64, .int .i64, .int .i64], .arr 4 false] ((), (), (), ()) ((y0.State, y0.Load, y0.Height, y0.Lowest, y0.Highest, y0.Limit, y0.Reset, ()), (c.2.State, c.2.Load, c.2.Height, c.2.Lowest, c.2.Highest, c.2.Limit, c.2.Reset, ()), y2, ()))) (fun z0 z1 z2 => J (z0, z1, z2)) c.1 x.1 x.2.1 c.2 x.2.2
def spec_RunSignals_3_sp (n : Nat) : LSpec T := mkSpec T ⟨[((.reg 6), 3000000, 4)], [1, 2, 4, 6, 7], [16, 32, 3000000]⟩ spec_RunSignals_3_sv spec_RunSignals_3_so (List SSignal × SHoist) (Int × SHoist × List Bool) spec_RunSignals_3_emb spec_RunSignals_3_prj (spec_RunSignals_3_b n)
noncomputable def spec_RunSignals_3_c : Code := ((loopCodes spec_RunSignals_code)[0]?).getD .skip
def spec_RunSignals_ann : Ann := fun id => bif Nat.beq id 3000003 then some ⟨[((.reg 6), 3000000, 4)], [2, 4, 6], [16, 32, 3000000]⟩ else none
def spec_RunSignals_Ls (n : Nat) : Nat → Option (LSpec T) := fun id => bif Nat.beq id 3 then some (spec_RunSignals_3_sp n) else none
theorem spec_RunSignals_3_le (n : Nat) : LoopEq (T := T) (Phi n 8) (spec_RunSignals_Ls n) spec_RunSignals_ann n spec_RunSignals_3_c (spec_RunSignals_3_sp n) := ⟨mkSpec_dec (fun y => rfl), fun c x => by kernel_rfl, fun K J c x => by kernel_rfl⟩
theorem spec_RunSignals_tie (n : Nat) (h0 : SHoist) (list1 : List SSignal) : evF (T := T) (Phi n 8) (spec_RunSignals_Ls n) spec_RunSignals_ann n Try.f38 (sg 38) [vA T 54 h0, vA T 59 list1] spec_RunSignals_dec = spec_RunSignals n h0 list1 := by kernel_rfl
theorem spec_RunSignals_lo (n : Nat) : LoopsOk (T := T) (Phi n 8) (spec_RunSignals_Ls n) spec_RunSignals_ann n spec_RunSignals_code := loopsOk_all (cs := [spec_RunSignals_3_c]) (by kernel_rfl) ⟨⟨_, by kernel_rfl, spec_RunSignals_3_le n⟩, trivial⟩
theorem spec_RunSignals_ok (n : Nat) : EntOk Try.prog (ents n) (spec_RunSignals_ent n) := by
  intro hs ar y hg h
  replace h : spec_RunSignals_D n ar = some y := h
  unfold spec_RunSignals_D at h
  split at h
  · obtain ⟨h0, qh0, h⟩ := Option.bind_eq_some_iff.1 h
    obtain ⟨list1, qh1, h⟩ := Option.bind_eq_some_iff.1 h
    rw [argV_eq ok qh0, argV_eq ok qh1]
    exact call_of (phiE_nat _ _) hs ok mixed Try.func38 (c := spec_RunSignals_code) (by kernel_rfl) (spec_RunSignals_lo n) (by kernel_rfl) (by kernel_rfl) (by kernel_rfl) spec_RunSignals_de ((spec_RunSignals_tie n h0 list1).trans h)
  · cases h
noncomputable def impl_in_code : Code := match Try.f113.body with | some c => c | none => .skip
def impl_in_ann : Ann := fun id => none
def impl_in_Ls (n : Nat) : Nat → Option (LSpec T) := fun id => none
theorem impl_in_tie (n : Nat) (n0 : Int) (least1 : Int) (most2 : Int) : evF (T := T) (Phi n 9) (impl_in_Ls n) impl_in_ann n Try.f113 (sg 113) [vA T 3 n0, vA T 3 least1, vA T 3 most2] impl_in_dec = impl_in n n0 least1 most2 := by kernel_rfl
theorem impl_in_lo (n : Nat) : LoopsOk (T := T) (Phi n 9) (impl_in_Ls n) impl_in_ann n impl_in_code := loopsOk_all (cs := []) (by kernel_rfl) trivial
theorem impl_in_ok (n : Nat) : EntOk Try.prog (ents n) (impl_in_ent n) := by
  intro hs ar y hg h
  replace h : impl_in_D n ar = some y := h
  unfold impl_in_D at h
  split at h
  · obtain ⟨n0, qh0, h⟩ := Option.bind_eq_some_iff.1 h
    obtain ⟨least1, qh1, h⟩ := Option.bind_eq_some_iff.1 h
    obtain ⟨most2, qh2, h⟩ := Option.bind_eq_some_iff.1 h
    rw [argV_eq ok qh0, argV_eq ok qh1, argV_eq ok qh2]
    exact call_of (phiE_nat _ _) hs ok mixed Try.func113 (c := impl_in_code) (by kernel_rfl) (impl_in_lo n) (by kernel_rfl) (by kernel_rfl) (by kernel_rfl) impl_in_de ((impl_in_tie n n0 least1 most2).trans h)
  · cases h
noncomputable def impl_HoistOk_code : Code := match Try.f218.body with | some c => c | none => .skip
def impl_HoistOk_ann : Ann := fun id => none
def impl_HoistOk_Ls (n : Nat) : Nat → Option (LSpec T) := fun id => none
theorem impl_HoistOk_tie (n : Nat) (h0 : SHoist) : evF (T := T) (Phi n 10) (impl_HoistOk_Ls n) impl_HoistOk_ann n Try.f218 (sg 218) [vA T 54 h0] impl_HoistOk_dec = impl_HoistOk n h0 := by kernel_rfl
theorem impl_HoistOk_lo (n : Nat) : LoopsOk (T := T) (Phi n 10) (impl_HoistOk_Ls n) impl_HoistOk_ann n impl_HoistOk_code := loopsOk_all (cs := []) (by kernel_rfl) trivial
theorem impl_HoistOk_ok (n : Nat) : EntOk Try.prog (ents n) (impl_HoistOk_ent n) := by
  intro hs ar y hg h
  replace h : impl_HoistOk_D n ar = some y := h
  unfold impl_HoistOk_D at h
  split at h
  · obtain ⟨h0, qh0, h⟩ := Option.bind_eq_some_iff.1 h
    rw [argV_eq ok qh0]
    exact call_of (phiE_nat _ _) hs ok mixed Try.func218 (c := impl_HoistOk_code) (by kernel_rfl) (impl_HoistOk_lo n) (by kernel_rfl) (by kernel_rfl) (by kernel_rfl) impl_HoistOk_de ((impl_HoistOk_tie n h0).trans h)
  · cases h
noncomputable def impl_DoSignal_code : Code := match Try.f131.body with | some c => c | none => .skip
def impl_DoSignal_ann : Ann := fun id => none
def impl_DoSignal_Ls (n : Nat) : Nat → Option (LSpec T) := fun id => none
theorem impl_DoSignal_tie (n : Nat) (h0 : SHoist) (s1 : SSignal) : evF (T := T) (Phi n 11) (impl_DoSignal_Ls n) impl_DoSignal_ann n Try.f131 (sg 131) [vA T 54 h0, vA T 178 s1] impl_DoSignal_dec = impl_DoSignal n h0 s1 := by kernel_rfl
theorem impl_DoSignal_lo (n : Nat) : LoopsOk (T := T) (Phi n 11) (impl_DoSignal_Ls n) impl_DoSignal_ann n impl_DoSignal_code := loopsOk_all (cs := []) (by kernel_rfl) trivial
theorem impl_DoSignal_ok (n : Nat) : EntOk Try.prog (ents n) (impl_DoSignal_ent n) := by
  intro hs ar y hg h
  replace h : impl_DoSignal_D n ar = some y := h
  unfold impl_DoSignal_D at h
  split at h
  · obtain ⟨h0, qh0, h⟩ := Option.bind_eq_some_iff.1 h
    obtain ⟨s1, qh1, h⟩ := Option.bind_eq_some_iff.1 h
    rw [argV_eq ok qh0, argV_eq ok qh1]
    exact call_of (phiE_nat _ _) hs ok mixed Try.func131 (c := impl_DoSignal_code) (by kernel_rfl) (impl_DoSignal_lo n) (by kernel_rfl) (by kernel_rfl) (by kernel_rfl) impl_DoSignal_de ((impl_DoSignal_tie n h0 s1).trans h)
  · cases h
noncomputable def impl_own_bool_code : Code := match Try.f132.body with | some c => c | none => .skip
def impl_own_bool_ann : Ann := fun id => none
def impl_own_bool_Ls (n : Nat) : Nat → Option (LSpec T) := fun id => none
theorem impl_own_bool_tie (n : Nat) (l0 : List Bool) : evF (T := T) (Phi n 12) (impl_own_bool_Ls n) impl_own_bool_ann n Try.f132 (sg 132) [vA T 55 l0] impl_own_bool_dec = impl_own_bool n l0 := by kernel_rfl
theorem impl_own_bool_lo (n : Nat) : LoopsOk (T := T) (Phi n 12) (impl_own_bool_Ls n) impl_own_bool_ann n impl_own_bool_code := loopsOk_all (cs := []) (by kernel_rfl) trivial
theorem impl_own_bool_ok (n : Nat) : EntOk Try.prog (ents n) (impl_own_bool_ent n) := by
  intro hs ar y hg h
  replace h : impl_own_bool_D n ar = some y := h
  unfold impl_own_bool_D at h
  split at h
  · obtain ⟨l0, qh0, h⟩ := Option.bind_eq_some_iff.1 h
    rw [argV_eq ok qh0]
    exact call_of (phiE_nat _ _) hs ok mixed Try.func132 (c := impl_own_bool_code) (by kernel_rfl) (impl_own_bool_lo n) (by kernel_rfl) (by kernel_rfl) (by kernel_rfl) impl_own_bool_de ((impl_own_bool_tie n l0).trans h)
  · cases h
noncomputable def impl_RunSignals_code : Code := match Try.f41.body with | some c => c | none => .skip
def impl_RunSignals_5_sv : List Sv := [.one (.ptr 16 0 0), .one (.ptr 32 0 0), .one (.own 3000000 4 false), .one (.arr 178), .one (.int .i64), .one (.int .i64)]
def impl_RunSignals_5_so : List So := [.var [.int .i64, .int .i64, .int .i64, .int .i64, .int .i64, .int .i64, .int .i64], .var [.int .i64, .int .i64, .int .i64, .int .i64, .int .i64, .int .i64, .int .i64], .arr 4 false]
def impl_RunSignals_5_emb (c : List SSignal × Int × SHoist) (x : Int × SHoist × List Bool) : EVs T impl_RunSignals_5_sv × EOs T impl_RunSignals_5_so := (((), (), (), c.1, c.2.1, x.1, ()), ((x.2.1.State, x.2.1.Load, x.2.1.Height, x.2.1.Lowest, x.2.1.Highest, x.2.1.Limit, x.2.1.Reset, ()), (c.2.2.State, c.2.2.Load, c.2.2.Height, c.2.2.Lowest, c.2.2.Highest, c.2.2.Limit, c.2.2.Reset, ()), x.2.2, ()))
def impl_RunSignals_5_prj (y : EVs T impl_RunSignals_5_sv × EOs T impl_RunSignals_5_so) : (List SSignal × Int × SHoist) × (Int × SHoist × List Bool) := ((y.1.2.2.2.1, y.1.2.2.2.2.1, ((⟨y.2.2.1.1, y.2.2.1.2.1, y.2.2.1.2.2.1, y.2.2.1.2.2.2.1, y.2.2.1.2.2.2.2.1, y.2.2.1.2.2.2.2.2.1, y.2.2.1.2.2.2.2.2.2.1⟩ : SHoist) : SHoist)), (y.1.2.2.2.2.2.1, ((⟨y.2.1.1, y.2.1.2.1, y.2.1.2.2.1, y.2.1.2.2.2.1, y.2.1.2.2.2.2.1, y.2.1.2.2.2.2.2.1, y.2.1.2.2.2.2.2.2.1⟩ : SHoist) : SHoist), y.2.2.2.1))
def impl_RunSignals_5_b (n : Nat) {R : Type} (K : Ex → Sm.St T → Option R) (c : List SSignal × Int × SHoist) (x : Int × SHoist × List Bool) (J : (Int × SHoist × List Bool) → Option R) : Option R :=
  impl_RunSignals_L5 n (fun (y0 : SHoist) (y2 : List Bool) => K (.exit 0) (stOf (T := T) [2, 4, 6] [16, 32, 3000000] [.one (.ptr 16 0 0), .one (.ptr 32 0 0), .one (.own 3000000 4 false)] [.var [.int .i64, .int .i64, .int .i64, .int .i64, .int .i64, .int .i64, .int .i64], .var [.int .i64, .int .i64, .int .i64, .int .i64, .int .i64, .int .i64, .int .i64], .arr 4 false] ((), (), (), ()) ((y0.State, y0.Load, y0.Height, y0.Lowest, y0.Highest, y0.Limit, y0.Reset, ()), (c.2.2.State, c.2.2.Load, c.2.2.Height, c.2.2.Lowest, c.2.2.Highest, c.2.2.Limit, c.2.2.Reset, ()), y2, ()))) (fun z0 z1 z2 => J (z0, z1, z2)) c.1 c.2.1 x.1 x.2.1 c.2.2 x.2.2
def impl_RunSignals_5_sp (n : Nat) : LSpec T := mkSpec T ⟨[((.reg 6), 3000000, 4)], [2, 4, 6, 14, 15, 16], [16, 32, 3000000]⟩ impl_RunSignals_5_sv impl_RunSignals_5_so (List SSignal × Int × SHoist) (Int × SHoist × List Bool) impl_RunSignals_5_emb impl_RunSignals_5_prj (impl_RunSignals_5_b n)
noncomputable def impl_RunSignals_5_c : Code := ((loopCodes impl_RunSignals_code)[0]?).getD .skip
def impl_RunSignals_ann : Ann := fun id => bif Nat.beq id 3000005 then some ⟨[((.reg 6), 3000000, 4)], [2, 4, 6], [16, 32, 3000000]⟩ else none
def impl_RunSignals_Ls (n : Nat) : Nat → Option (LSpec T) := fun id => bif Nat.beq id 5 then some (impl_RunSignals_5_sp n) else none
theorem impl_RunSignals_5_le (n : Nat) : LoopEq (T := T) (Phi n 13) (impl_RunSignals_Ls n) impl_RunSignals_ann n impl_RunSignals_5_c (impl_RunSignals_5_sp n) := ⟨mkSpec_dec (fun y => rfl), fun c x => by kernel_rfl, fun K J c x => by kernel_rfl⟩
theorem impl_RunSignals_tie (n : Nat) (h0 : SHoist) (list1 : List SSignal) : evF (T := T) (Phi n 13) (impl_RunSignals_Ls n) impl_RunSignals_ann n Try.f41 (sg 41) [vA T 54 h0, vA T 59 list1] impl_RunSignals_dec = impl_RunSignals n h0 list1 := by kernel_rfl
theorem impl_RunSignals_lo (n : Nat) : LoopsOk (T := T) (Phi n 13) (impl_RunSignals_Ls n) impl_RunSignals_ann n impl_RunSignals_code := loopsOk_all (cs := [impl_RunSignals_5_c]) (by kernel_rfl) ⟨⟨_, by kernel_rfl, impl_RunSignals_5_le n⟩, trivial⟩
theorem impl_RunSignals_ok (n : Nat) : EntOk Try.prog (ents n) (impl_RunSignals_ent n) := by
  intro hs ar y hg h
  replace h : impl_RunSignals_D n ar = some y := h
  unfold impl_RunSignals_D at h
  split at h
  · obtain ⟨h0, qh0, h⟩ := Option.bind_eq_some_iff.1 h
    obtain ⟨list1, qh1, h⟩ := Option.bind_eq_some_iff.1 h
    rw [argV_eq ok qh0, argV_eq ok qh1]
    exact call_of (phiE_nat _ _) hs ok mixed Try.func41 (c := impl_RunSignals_code) (by kernel_rfl) (impl_RunSignals_lo n) (by kernel_rfl) (by kernel_rfl) (by kernel_rfl) impl_RunSignals_de ((impl_RunSignals_tie n h0 list1).trans h)
  · cases h
noncomputable def laws_eqHoist_code : Code := match Try.f42.body with | some c => c | none => .skip
def laws_eqHoist_ann : Ann := fun id => none
def laws_eqHoist_Ls (n : Nat) : Nat → Option (LSpec T) := fun id => none
theorem laws_eqHoist_tie (n : Nat) (a0 : SHoist) (b1 : SHoist) : evF (T := T) (Phi n 14) (laws_eqHoist_Ls n) laws_eqHoist_ann n Try.f42 (sg 42) [vA T 54 a0, vA T 54 b1] laws_eqHoist_dec = laws_eqHoist n a0 b1 := by kernel_rfl
theorem laws_eqHoist_lo (n : Nat) : LoopsOk (T := T) (Phi n 14) (laws_eqHoist_Ls n) laws_eqHoist_ann n laws_eqHoist_code := loopsOk_all (cs := []) (by kernel_rfl) trivial
theorem laws_eqHoist_ok (n : Nat) : EntOk Try.prog (ents n) (laws_eqHoist_ent n) := by
  intro hs ar y hg h
  replace h : laws_eqHoist_D n ar = some y := h
  unfold laws_eqHoist_D at h
  split at h
  · obtain ⟨a0, qh0, h⟩ := Option.bind_eq_some_iff.1 h
    obtain ⟨b1, qh1, h⟩ := Option.bind_eq_some_iff.1 h
    rw [argV_eq ok qh0, argV_eq ok qh1]
    exact call_of (phiE_nat _ _) hs ok mixed Try.func42 (c := laws_eqHoist_code) (by kernel_rfl) (laws_eqHoist_lo n) (by kernel_rfl) (by kernel_rfl) (by kernel_rfl) laws_eqHoist_de ((laws_eqHoist_tie n a0 b1).trans h)
  · cases h
noncomputable def laws_eqBoolS_code : Code := match Try.f43.body with | some c => c | none => .skip
def laws_eqBoolS_4_sv : List Sv := [.one (.arr 4), .one (.arr 4), .one (.int .i64)]
def laws_eqBoolS_4_so : List So := []
def laws_eqBoolS_4_emb (c : List Bool × List Bool) (x : Int) : EVs T laws_eqBoolS_4_sv × EOs T laws_eqBoolS_4_so := ((c.1, c.2, x, ()), ())
def laws_eqBoolS_4_prj (y : EVs T laws_eqBoolS_4_sv × EOs T laws_eqBoolS_4_so) : (List Bool × List Bool) × Int := ((y.1.1, y.1.2.1), (y.1.2.2.1))
def laws_eqBoolS_4_b (n : Nat) {R : Type} (K : Ex → Sm.St T → Option R) (c : List Bool × List Bool) (x : Int) (J : Int → Option R) : Option R :=
  laws_eqBoolS_L4 n (K (.exit 0) (stOf (T := T) [] [] [] [] () ())) (fun (y0 : Bool) => K .ret (stOf (T := T) [4] [] [.one (.bool)] [] (y0, ()) ())) J c.1 c.2 x
def laws_eqBoolS_4_sp (n : Nat) : LSpec T := mkSpec T ⟨[], [0, 1, 5], []⟩ laws_eqBoolS_4_sv laws_eqBoolS_4_so (List Bool × List Bool) (Int) laws_eqBoolS_4_emb laws_eqBoolS_4_prj (laws_eqBoolS_4_b n)
noncomputable def laws_eqBoolS_4_c : Code := ((loopCodes laws_eqBoolS_code)[0]?).getD .skip
def laws_eqBoolS_ann : Ann := fun id => bif Nat.beq id 3000004 then some ⟨[], [], []⟩ else bif Nat.beq id 2000004 then some ⟨[], [4], []⟩ else none
def laws_eqBoolS_Ls (n : Nat) : Nat → Option (LSpec T) := fun id => bif Nat.beq id 4 then some (laws_eqBoolS_4_sp n) else none
theorem laws_eqBoolS_4_le (n : Nat) : LoopEq (T := T) (Phi n 15) (laws_eqBoolS_Ls n) laws_eqBoolS_ann n laws_eqBoolS_4_c (laws_eqBoolS_4_sp n) := ⟨mkSpec_dec (fun y => rfl), fun c x => by kernel_rfl, fun K J c x => by kernel_rfl⟩
theorem laws_eqBoolS_tie (n : Nat) (a0 : List Bool) (b1 : List Bool) : evF (T := T) (Phi n 15) (laws_eqBoolS_Ls n) laws_eqBoolS_ann n Try.f43 (sg 43) [vA T 55 a0, vA T 55 b1] laws_eqBoolS_dec = laws_eqBoolS n a0 b1 := by kernel_rfl
theorem laws_eqBoolS_lo (n : Nat) : LoopsOk (T := T) (Phi n 15) (laws_eqBoolS_Ls n) laws_eqBoolS_ann n laws_eqBoolS_code := loopsOk_all (cs := [laws_eqBoolS_4_c]) (by kernel_rfl) ⟨⟨_, by kernel_rfl, laws_eqBoolS_4_le n⟩, trivial⟩
theorem laws_eqBoolS_ok (n : Nat) : EntOk Try.prog (ents n) (laws_eqBoolS_ent n) := by
  intro hs ar y hg h
  replace h : laws_eqBoolS_D n ar = some y := h
  unfold laws_eqBoolS_D at h
  split at h
  · obtain ⟨a0, qh0, h⟩ := Option.bind_eq_some_iff.1 h
    obtain ⟨b1, qh1, h⟩ := Option.bind_eq_some_iff.1 h
    rw [argV_eq ok qh0, argV_eq ok qh1]
    exact call_of (phiE_nat _ _) hs ok mixed Try.func43 (c := laws_eqBoolS_code) (by kernel_rfl) (laws_eqBoolS_lo n) (by kernel_rfl) (by kernel_rfl) (by kernel_rfl) laws_eqBoolS_de ((laws_eqBoolS_tie n a0 b1).trans h)
  · cases h
noncomputable def laws_eqSignal_code : Code := match Try.f133.body with | some c => c | none => .skip
def laws_eqSignal_ann : Ann := fun id => none
def laws_eqSignal_Ls (n : Nat) : Nat → Option (LSpec T) := fun id => none
theorem laws_eqSignal_tie (n : Nat) (a0 : SSignal) (b1 : SSignal) : evF (T := T) (Phi n 16) (laws_eqSignal_Ls n) laws_eqSignal_ann n Try.f133 (sg 133) [vA T 178 a0, vA T 178 b1] laws_eqSignal_dec = laws_eqSignal n a0 b1 := by kernel_rfl
theorem laws_eqSignal_lo (n : Nat) : LoopsOk (T := T) (Phi n 16) (laws_eqSignal_Ls n) laws_eqSignal_ann n laws_eqSignal_code := loopsOk_all (cs := []) (by kernel_rfl) trivial
theorem laws_eqSignal_ok (n : Nat) : EntOk Try.prog (ents n) (laws_eqSignal_ent n) := by
  intro hs ar y hg h
  replace h : laws_eqSignal_D n ar = some y := h
  unfold laws_eqSignal_D at h
  split at h
  · obtain ⟨a0, qh0, h⟩ := Option.bind_eq_some_iff.1 h
    obtain ⟨b1, qh1, h⟩ := Option.bind_eq_some_iff.1 h
    rw [argV_eq ok qh0, argV_eq ok qh1]
    exact call_of (phiE_nat _ _) hs ok mixed Try.func133 (c := laws_eqSignal_code) (by kernel_rfl) (laws_eqSignal_lo n) (by kernel_rfl) (by kernel_rfl) (by kernel_rfl) laws_eqSignal_de ((laws_eqSignal_tie n a0 b1).trans h)
  · cases h
noncomputable def laws_eqSignalS_code : Code := match Try.f44.body with | some c => c | none => .skip
def laws_eqSignalS_4_sv : List Sv := [.one (.arr 178), .one (.arr 178), .one (.int .i64)]
def laws_eqSignalS_4_so : List So := []
def laws_eqSignalS_4_emb (c : List SSignal × List SSignal) (x : Int) : EVs T laws_eqSignalS_4_sv × EOs T laws_eqSignalS_4_so := ((c.1, c.2, x, ()), ())
def laws_eqSignalS_4_prj (y : EVs T laws_eqSignalS_4_sv × EOs T laws_eqSignalS_4_so) : (List SSignal × List SSignal) × Int := ((y.1.1, y.1.2.1), (y.1.2.2.1))
def laws_eqSignalS_4_b (n : Nat) {R : Type} (K : Ex → Sm.St T → Option R) (c : List SSignal × List SSignal) (x : Int) (J : Int → Option R) : Option R :=
  laws_eqSignalS_L4 n (K (.exit 0) (stOf (T := T) [] [] [] [] () ())) (fun (y0 : Bool) => K .ret (stOf (T := T) [4] [] [.one (.bool)] [] (y0, ()) ())) J c.1 c.2 x
def laws_eqSignalS_4_sp (n : Nat) : LSpec T := mkSpec T ⟨[], [0, 1, 5], []⟩ laws_eqSignalS_4_sv laws_eqSignalS_4_so (List SSignal × List SSignal) (Int) laws_eqSignalS_4_emb laws_eqSignalS_4_prj (laws_eqSignalS_4_b n)
noncomputable def laws_eqSignalS_4_c : Code := ((loopCodes laws_eqSignalS_code)[0]?).getD .skip
def laws_eqSignalS_ann : Ann := fun id => bif Nat.beq id 3000004 then some ⟨[], [], []⟩ else bif Nat.beq id 2000004 then some ⟨[], [4], []⟩ else none
def laws_eqSignalS_Ls (n : Nat) : Nat → Option (LSpec T) := fun id => bif Nat.beq id 4 then some (laws_eqSignalS_4_sp n) else none
theorem laws_eqSignalS_4_le (n : Nat) : LoopEq (T := T) (Phi n 17) (laws_eqSignalS_Ls n) laws_eqSignalS_ann n laws_eqSignalS_4_c (laws_eqSignalS_4_sp n) := ⟨mkSpec_dec (fun y => rfl), fun c x => by kernel_rfl, fun K J c x => by kernel_rfl⟩
theorem laws_eqSignalS_tie (n : Nat) (a0 : List SSignal) (b1 : List SSignal) : evF (T := T) (Phi n 17) (laws_eqSignalS_Ls n) laws_eqSignalS_ann n Try.f44 (sg 44) [vA T 59 a0, vA T 59 b1] laws_eqSignalS_dec = laws_eqSignalS n a0 b1 := by kernel_rfl
theorem laws_eqSignalS_lo (n : Nat) : LoopsOk (T := T) (Phi n 17) (laws_eqSignalS_Ls n) laws_eqSignalS_ann n laws_eqSignalS_code := loopsOk_all (cs := [laws_eqSignalS_4_c]) (by kernel_rfl) ⟨⟨_, by kernel_rfl, laws_eqSignalS_4_le n⟩, trivial⟩
theorem laws_eqSignalS_ok (n : Nat) : EntOk Try.prog (ents n) (laws_eqSignalS_ent n) := by
  intro hs ar y hg h
  replace h : laws_eqSignalS_D n ar = some y := h
  unfold laws_eqSignalS_D at h
  split at h
  · obtain ⟨a0, qh0, h⟩ := Option.bind_eq_some_iff.1 h
    obtain ⟨b1, qh1, h⟩ := Option.bind_eq_some_iff.1 h
    rw [argV_eq ok qh0, argV_eq ok qh1]
    exact call_of (phiE_nat _ _) hs ok mixed Try.func44 (c := laws_eqSignalS_code) (by kernel_rfl) (laws_eqSignalS_lo n) (by kernel_rfl) (by kernel_rfl) (by kernel_rfl) laws_eqSignalS_de ((laws_eqSignalS_tie n a0 b1).trans h)
  · cases h
noncomputable def laws_markSignalS_code : Code := match Try.f45.body with | some c => c | none => .skip
def laws_markSignalS_2_sv : List Sv := [.one (.own 4503599627370496 178 false), .one (.int .i64), .one (.int .i64)]
def laws_markSignalS_2_so : List So := [.arr 178 true]
def laws_markSignalS_2_emb (c : Unit) (x : Int × Int × List SSignal) : EVs T laws_markSignalS_2_sv × EOs T laws_markSignalS_2_so := (((), x.1, x.2.1, ()), (x.2.2, ()))
def laws_markSignalS_2_prj (y : EVs T laws_markSignalS_2_sv × EOs T laws_markSignalS_2_so) : Unit × (Int × Int × List SSignal) := ((), (y.1.2.1, y.1.2.2.1, y.2.1))
def laws_markSignalS_2_b (n : Nat) {R : Type} (K : Ex → Sm.St T → Option R) (c : Unit) (x : Int × Int × List SSignal) (J : (Int × Int × List SSignal) → Option R) : Option R :=
  laws_markSignalS_L2 n (fun (y0 : Int) (y1 : List SSignal) => K (.exit 0) (stOf (T := T) [1] [4503599627370496] [.one (.int .i64)] [.arr 178 true] (y0, ()) (y1, ()))) (fun z0 z1 z2 => J (z0, z1, z2)) x.1 x.2.1 x.2.2
def laws_markSignalS_2_sp (n : Nat) : LSpec T := mkSpec T ⟨[], [0, 1, 5], [4503599627370496]⟩ laws_markSignalS_2_sv laws_markSignalS_2_so (Unit) (Int × Int × List SSignal) laws_markSignalS_2_emb laws_markSignalS_2_prj (laws_markSignalS_2_b n)
noncomputable def laws_markSignalS_2_c : Code := ((loopCodes laws_markSignalS_code)[0]?).getD .skip
def laws_markSignalS_ann : Ann := fun id => bif Nat.beq id 3000002 then some ⟨[], [1], [4503599627370496]⟩ else none
def laws_markSignalS_Ls (n : Nat) : Nat → Option (LSpec T) := fun id => bif Nat.beq id 2 then some (laws_markSignalS_2_sp n) else none
theorem laws_markSignalS_2_le (n : Nat) : LoopEq (T := T) (Phi n 18) (laws_markSignalS_Ls n) laws_markSignalS_ann n laws_markSignalS_2_c (laws_markSignalS_2_sp n) := ⟨mkSpec_dec (fun y => rfl), fun c x => by kernel_rfl, fun K J c x => by kernel_rfl⟩
theorem laws_markSignalS_tie (n : Nat) (a0 : List SSignal) (k1 : Int) : evF (T := T) (Phi n 18) (laws_markSignalS_Ls n) laws_markSignalS_ann n Try.f45 (sg 45) [vA T 59 a0, vA T 3 k1] laws_markSignalS_dec = laws_markSignalS n a0 k1 := by kernel_rfl
theorem laws_markSignalS_lo (n : Nat) : LoopsOk (T := T) (Phi n 18) (laws_markSignalS_Ls n) laws_markSignalS_ann n laws_markSignalS_code := loopsOk_all (cs := [laws_markSignalS_2_c]) (by kernel_rfl) ⟨⟨_, by kernel_rfl, laws_markSignalS_2_le n⟩, trivial⟩
theorem laws_markSignalS_ok (n : Nat) : EntOk Try.prog (ents n) (laws_markSignalS_ent n) := by
  intro hs ar y hg h
  replace h : laws_markSignalS_D n ar = some y := h
  unfold laws_markSignalS_D at h
  split at h
  · obtain ⟨a0, qh0, h⟩ := Option.bind_eq_some_iff.1 h
    obtain ⟨k1, qh1, h⟩ := Option.bind_eq_some_iff.1 h
    rw [argV_eq ok qh0, argV_eq ok qh1]
    exact call_of (phiE_nat _ _) hs ok mixed Try.func45 (c := laws_markSignalS_code) (by kernel_rfl) (laws_markSignalS_lo n) (by kernel_rfl) (by kernel_rfl) (by kernel_rfl) laws_markSignalS_de ((laws_markSignalS_tie n a0 k1).trans h)
  · cases h
noncomputable def laws_markBoolS_code : Code := match Try.f46.body with | some c => c | none => .skip
def laws_markBoolS_2_sv : List Sv := [.one (.own 4503599627370496 4 false), .one (.int .i64), .one (.int .i64)]
def laws_markBoolS_2_so : List So := [.arr 4 true]
def laws_markBoolS_2_emb (c : Unit) (x : Int × Int × List Bool) : EVs T laws_markBoolS_2_sv × EOs T laws_markBoolS_2_so := (((), x.1, x.2.1, ()), (x.2.2, ()))
def laws_markBoolS_2_prj (y : EVs T laws_markBoolS_2_sv × EOs T laws_markBoolS_2_so) : Unit × (Int × Int × List Bool) := ((), (y.1.2.1, y.1.2.2.1, y.2.1))
def laws_markBoolS_2_b (n : Nat) {R : Type} (K : Ex → Sm.St T → Option R) (c : Unit) (x : Int × Int × List Bool) (J : (Int × Int × List Bool) → Option R) : Option R :=
  laws_markBoolS_L2 n (fun (y0 : Int) (y1 : List Bool) => K (.exit 0) (stOf (T := T) [1] [4503599627370496] [.one (.int .i64)] [.arr 4 true] (y0, ()) (y1, ()))) (fun z0 z1 z2 => J (z0, z1, z2)) x.1 x.2.1 x.2.2
def laws_markBoolS_2_sp (n : Nat) : LSpec T := mkSpec T ⟨[], [0, 1, 5], [4503599627370496]⟩ laws_markBoolS_2_sv laws_markBoolS_2_so (Unit) (Int × Int × List Bool) laws_markBoolS_2_emb laws_markBoolS_2_prj (laws_markBoolS_2_b n)
noncomputable def laws_markBoolS_2_c : Code := ((loopCodes laws_markBoolS_code)[0]?).getD .skip
def laws_markBoolS_ann : Ann := fun id => bif Nat.beq id 3000002 then some ⟨[], [1], [4503599627370496]⟩ else none
def laws_markBoolS_Ls (n : Nat) : Nat → Option (LSpec T) := fun id => bif Nat.beq id 2 then some (laws_markBoolS_2_sp n) else none
theorem laws_markBoolS_2_le (n : Nat) : LoopEq (T := T) (Phi n 19) (laws_markBoolS_Ls n) laws_markBoolS_ann n laws_markBoolS_2_c (laws_markBoolS_2_sp n) := ⟨mkSpec_dec (fun y => rfl), fun c x => by kernel_rfl, fun K J c x => by kernel_rfl⟩
theorem laws_markBoolS_tie (n : Nat) (a0 : List Bool) (k1 : Int) : evF (T := T) (Phi n 19) (laws_markBoolS_Ls n) laws_markBoolS_ann n Try.f46 (sg 46) [vA T 55 a0, vA T 3 k1] laws_markBoolS_dec = laws_markBoolS n a0 k1 := by kernel_rfl
theorem laws_markBoolS_lo (n : Nat) : LoopsOk (T := T) (Phi n 19) (laws_markBoolS_Ls n) laws_markBoolS_ann n laws_markBoolS_code := loopsOk_all (cs := [laws_markBoolS_2_c]) (by kernel_rfl) ⟨⟨_, by kernel_rfl, laws_markBoolS_2_le n⟩, trivial⟩
theorem laws_markBoolS_ok (n : Nat) : EntOk Try.prog (ents n) (laws_markBoolS_ent n) := by
  intro hs ar y hg h
  replace h : laws_markBoolS_D n ar = some y := h
  unfold laws_markBoolS_D at h
  split at h
  · obtain ⟨a0, qh0, h⟩ := Option.bind_eq_some_iff.1 h
    obtain ⟨k1, qh1, h⟩ := Option.bind_eq_some_iff.1 h
    rw [argV_eq ok qh0, argV_eq ok qh1]
    exact call_of (phiE_nat _ _) hs ok mixed Try.func46 (c := laws_markBoolS_code) (by kernel_rfl) (laws_markBoolS_lo n) (by kernel_rfl) (by kernel_rfl) (by kernel_rfl) laws_markBoolS_de ((laws_markBoolS_tie n a0 k1).trans h)
  · cases h
noncomputable def laws_heldBoolS_code : Code := match Try.f47.body with | some c => c | none => .skip
def laws_heldBoolS_2_sv : List Sv := [.one (.arr 4), .one (.int .i64), .one (.int .i64)]
def laws_heldBoolS_2_so : List So := []
def laws_heldBoolS_2_emb (c : List Bool) (x : Int × Int) : EVs T laws_heldBoolS_2_sv × EOs T laws_heldBoolS_2_so := ((c, x.1, x.2, ()), ())
def laws_heldBoolS_2_prj (y : EVs T laws_heldBoolS_2_sv × EOs T laws_heldBoolS_2_so) : List Bool × (Int × Int) := ((y.1.1), (y.1.2.1, y.1.2.2.1))
def laws_heldBoolS_2_b (n : Nat) {R : Type} (K : Ex → Sm.St T → Option R) (c : List Bool) (x : Int × Int) (J : (Int × Int) → Option R) : Option R :=
  laws_heldBoolS_L2 n (fun (y0 : Int) => K (.exit 0) (stOf (T := T) [1] [] [.one (.int .i64)] [] (y0, ()) ())) (fun (y0 : Int) => K .ret (stOf (T := T) [4] [] [.one (.int .i64)] [] (y0, ()) ())) (fun z0 z1 => J (z0, z1)) c x.1 x.2
def laws_heldBoolS_2_sp (n : Nat) : LSpec T := mkSpec T ⟨[], [0, 1, 5], []⟩ laws_heldBoolS_2_sv laws_heldBoolS_2_so (List Bool) (Int × Int) laws_heldBoolS_2_emb laws_heldBoolS_2_prj (laws_heldBoolS_2_b n)
noncomputable def laws_heldBoolS_2_c : Code := ((loopCodes laws_heldBoolS_code)[0]?).getD .skip
def laws_heldBoolS_ann : Ann := fun id => bif Nat.beq id 3000002 then some ⟨[], [1], []⟩ else bif Nat.beq id 2000002 then some ⟨[], [4], []⟩ else none
def laws_heldBoolS_Ls (n : Nat) : Nat → Option (LSpec T) := fun id => bif Nat.beq id 2 then some (laws_heldBoolS_2_sp n) else none
theorem laws_heldBoolS_2_le (n : Nat) : LoopEq (T := T) (Phi n 20) (laws_heldBoolS_Ls n) laws_heldBoolS_ann n laws_heldBoolS_2_c (laws_heldBoolS_2_sp n) := ⟨mkSpec_dec (fun y => rfl), fun c x => by kernel_rfl, fun K J c x => by kernel_rfl⟩
theorem laws_heldBoolS_tie (n : Nat) (a0 : List Bool) (k1 : Int) : evF (T := T) (Phi n 20) (laws_heldBoolS_Ls n) laws_heldBoolS_ann n Try.f47 (sg 47) [vA T 55 a0, vA T 3 k1] laws_heldBoolS_dec = laws_heldBoolS n a0 k1 := by kernel_rfl
theorem laws_heldBoolS_lo (n : Nat) : LoopsOk (T := T) (Phi n 20) (laws_heldBoolS_Ls n) laws_heldBoolS_ann n laws_heldBoolS_code := loopsOk_all (cs := [laws_heldBoolS_2_c]) (by kernel_rfl) ⟨⟨_, by kernel_rfl, laws_heldBoolS_2_le n⟩, trivial⟩
theorem laws_heldBoolS_ok (n : Nat) : EntOk Try.prog (ents n) (laws_heldBoolS_ent n) := by
  intro hs ar y hg h
  replace h : laws_heldBoolS_D n ar = some y := h
  unfold laws_heldBoolS_D at h
  split at h
  · obtain ⟨a0, qh0, h⟩ := Option.bind_eq_some_iff.1 h
    obtain ⟨k1, qh1, h⟩ := Option.bind_eq_some_iff.1 h
    rw [argV_eq ok qh0, argV_eq ok qh1]
    exact call_of (phiE_nat _ _) hs ok mixed Try.func47 (c := laws_heldBoolS_code) (by kernel_rfl) (laws_heldBoolS_lo n) (by kernel_rfl) (by kernel_rfl) (by kernel_rfl) laws_heldBoolS_de ((laws_heldBoolS_tie n a0 k1).trans h)
  · cases h
noncomputable def laws_FnExactRunSignals_code : Code := match Try.f6.body with | some c => c | none => .skip
def laws_FnExactRunSignals_ann : Ann := fun id => none
def laws_FnExactRunSignals_Ls (n : Nat) : Nat → Option (LSpec T) := fun id => none
theorem laws_FnExactRunSignals_tie (n : Nat) (aH0 : SHoist) (aList1 : List SSignal) : evF (T := T) (Phi n 21) (laws_FnExactRunSignals_Ls n) laws_FnExactRunSignals_ann n Try.f6 (sg 6) [vA T 51 aH0, vA T 52 aList1] laws_FnExactRunSignals_dec = laws_FnExactRunSignals n aH0 aList1 := by kernel_rfl
theorem laws_FnExactRunSignals_lo (n : Nat) : LoopsOk (T := T) (Phi n 21) (laws_FnExactRunSignals_Ls n) laws_FnExactRunSignals_ann n laws_FnExactRunSignals_code := loopsOk_all (cs := []) (by kernel_rfl) trivial
theorem laws_FnExactRunSignals_ok (n : Nat) : EntOk Try.prog (ents n) (laws_FnExactRunSignals_ent n) := by
  intro hs ar y hg h
  replace h : laws_FnExactRunSignals_D n ar = some y := h
  unfold laws_FnExactRunSignals_D at h
  split at h
  · obtain ⟨aH0, qh0, h⟩ := Option.bind_eq_some_iff.1 h
    obtain ⟨aList1, qh1, h⟩ := Option.bind_eq_some_iff.1 h
    rw [argV_eq ok qh0, argV_eq ok qh1]
    exact call_of (phiE_nat _ _) hs ok mixed Try.func6 (c := laws_FnExactRunSignals_code) (by kernel_rfl) (laws_FnExactRunSignals_lo n) (by kernel_rfl) (by kernel_rfl) (by kernel_rfl) laws_FnExactRunSignals_de ((laws_FnExactRunSignals_tie n aH0 aList1).trans h)
  · cases h
theorem entsOk (n : Nat) : EntsOk Try.prog (ents n) (ents n) := ⟨laws_szSignalS_ok n, laws_toHoist_ok n, laws_toSignal_ok n, laws_toSignalS_ok n, spec_l1In_ok n, spec_HoistOk_ok n, spec_l20If_ok n, spec_DoSignal_ok n, spec_RunSignals_ok n, impl_in_ok n, impl_HoistOk_ok n, impl_DoSignal_ok n, impl_own_bool_ok n, impl_RunSignals_ok n, laws_eqHoist_ok n, laws_eqBoolS_ok n, laws_eqSignal_ok n, laws_eqSignalS_ok n, laws_markSignalS_ok n, laws_markBoolS_ok n, laws_heldBoolS_ok n, laws_FnExactRunSignals_ok n, trivial⟩
theorem sem (n i : Nat) : SemOk (Phi n i) (CallOk Try.prog T) := phiE_ok (entsOk n) i
end Go.Sm.A6
