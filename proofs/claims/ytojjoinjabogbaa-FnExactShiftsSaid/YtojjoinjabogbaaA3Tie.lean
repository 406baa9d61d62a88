import Derived.Test.YtojjoinjabogbaaA3Tb
import Derived.KernelRfl
/- Each function's code computes what the plain function computes. -/
set_option linter.unusedSimpArgs false
set_option linter.deprecated false
set_option linter.unusedSectionVars false
set_option linter.unusedVariables false
set_option maxRecDepth 100000
open Go Go.Proofs
noncomputable section
namespace Go.Sm.A3
def laws_szBox_dec (res : Res T) : Option Int := match res.rets, res.outs with
  | [a0], [] => (retV (T := T) 3 a0).bind fun r0 => some (r0)
  | _, _ => none
def laws_szBox_enc (y : Int) : Res T := ⟨[vR T 3 y], []⟩
theorem laws_szBox_de (res : Res T) (y : Int) (h : laws_szBox_dec res = some y) : res = laws_szBox_enc y := by
  obtain ⟨rets, outs⟩ := res
  unfold laws_szBox_dec at h
  dsimp only at h
  split at h
  · obtain ⟨r0, h0, h⟩ := Option.bind_eq_some_iff.1 h
    cases h
    rw [retV_eq ok h0]
    rfl
  · cases h
def laws_szStow_dec (res : Res T) : Option Int := match res.rets, res.outs with
  | [a0], [] => (retV (T := T) 3 a0).bind fun r0 => some (r0)
  | _, _ => none
def laws_szStow_enc (y : Int) : Res T := ⟨[vR T 3 y], []⟩
theorem laws_szStow_de (res : Res T) (y : Int) (h : laws_szStow_dec res = some y) : res = laws_szStow_enc y := by
  obtain ⟨rets, outs⟩ := res
  unfold laws_szStow_dec at h
  dsimp only at h
  split at h
  · obtain ⟨r0, h0, h⟩ := Option.bind_eq_some_iff.1 h
    cases h
    rw [retV_eq ok h0]
    rfl
  · cases h
def laws_szStowS_dec (res : Res T) : Option Int := match res.rets, res.outs with
  | [a0], [] => (retV (T := T) 3 a0).bind fun r0 => some (r0)
  | _, _ => none
def laws_szStowS_enc (y : Int) : Res T := ⟨[vR T 3 y], []⟩
theorem laws_szStowS_de (res : Res T) (y : Int) (h : laws_szStowS_dec res = some y) : res = laws_szStowS_enc y := by
  obtain ⟨rets, outs⟩ := res
  unfold laws_szStowS_dec at h
  dsimp only at h
  split at h
  · obtain ⟨r0, h0, h⟩ := Option.bind_eq_some_iff.1 h
    cases h
    rw [retV_eq ok h0]
    rfl
  · cases h
def laws_toBox_dec (res : Res T) : Option SBox := match res.rets, res.outs with
  | [a0], [] => (retV (T := T) 152 a0).bind fun r0 => some (r0)
  | _, _ => none
def laws_toBox_enc (y : SBox) : Res T := ⟨[vR T 152 y], []⟩
theorem laws_toBox_de (res : Res T) (y : SBox) (h : laws_toBox_dec res = some y) : res = laws_toBox_enc y := by
  obtain ⟨rets, outs⟩ := res
  unfold laws_toBox_dec at h
  dsimp only at h
  split at h
  · obtain ⟨r0, h0, h⟩ := Option.bind_eq_some_iff.1 h
    cases h
    rw [retV_eq ok h0]
    rfl
  · cases h
def laws_toSpot_dec (res : Res T) : Option SSpot := match res.rets, res.outs with
  | [a0], [] => (retV (T := T) 153 a0).bind fun r0 => some (r0)
  | _, _ => none
def laws_toSpot_enc (y : SSpot) : Res T := ⟨[vR T 153 y], []⟩
theorem laws_toSpot_de (res : Res T) (y : SSpot) (h : laws_toSpot_dec res = some y) : res = laws_toSpot_enc y := by
  obtain ⟨rets, outs⟩ := res
  unfold laws_toSpot_dec at h
  dsimp only at h
  split at h
  · obtain ⟨r0, h0, h⟩ := Option.bind_eq_some_iff.1 h
    cases h
    rw [retV_eq ok h0]
    rfl
  · cases h
def laws_toStow_dec (res : Res T) : Option SStow := match res.rets, res.outs with
  | [a0], [] => (retV (T := T) 155 a0).bind fun r0 => some (r0)
  | _, _ => none
def laws_toStow_enc (y : SStow) : Res T := ⟨[vR T 155 y], []⟩
theorem laws_toStow_de (res : Res T) (y : SStow) (h : laws_toStow_dec res = some y) : res = laws_toStow_enc y := by
  obtain ⟨rets, outs⟩ := res
  unfold laws_toStow_dec at h
  dsimp only at h
  split at h
  · obtain ⟨r0, h0, h⟩ := Option.bind_eq_some_iff.1 h
    cases h
    rw [retV_eq ok h0]
    rfl
  · cases h
def laws_toStowS_dec (res : Res T) : Option (List SStow) := match res.rets, res.outs with
  | [a0], [] => (retV (T := T) 27 a0).bind fun r0 => some (r0)
  | _, _ => none
def laws_toStowS_enc (y : List SStow) : Res T := ⟨[vR T 27 y], []⟩
theorem laws_toStowS_de (res : Res T) (y : List SStow) (h : laws_toStowS_dec res = some y) : res = laws_toStowS_enc y := by
  obtain ⟨rets, outs⟩ := res
  unfold laws_toStowS_dec at h
  dsimp only at h
  split at h
  · obtain ⟨r0, h0, h⟩ := Option.bind_eq_some_iff.1 h
    cases h
    rw [retV_eq ok h0]
    rfl
  · cases h
def spec_l1In_dec (res : Res T) : Option Bool := match res.rets, res.outs with
  | [a0], [] => (retV (T := T) 4 a0).bind fun r0 => some (r0)
  | _, _ => none
def spec_l1In_enc (y : Bool) : Res T := ⟨[vR T 4 y], []⟩
theorem spec_l1In_de (res : Res T) (y : Bool) (h : spec_l1In_dec res = some y) : res = spec_l1In_enc y := by
  obtain ⟨rets, outs⟩ := res
  unfold spec_l1In_dec at h
  dsimp only at h
  split at h
  · obtain ⟨r0, h0, h⟩ := Option.bind_eq_some_iff.1 h
    cases h
    rw [retV_eq ok h0]
    rfl
  · cases h
def spec_l12At_dec (res : Res T) : Option Int := match res.rets, res.outs with
  | [a0], [] => (retV (T := T) 3 a0).bind fun r0 => some (r0)
  | _, _ => none
def spec_l12At_enc (y : Int) : Res T := ⟨[vR T 3 y], []⟩
theorem spec_l12At_de (res : Res T) (y : Int) (h : spec_l12At_dec res = some y) : res = spec_l12At_enc y := by
  obtain ⟨rets, outs⟩ := res
  unfold spec_l12At_dec at h
  dsimp only at h
  split at h
  · obtain ⟨r0, h0, h⟩ := Option.bind_eq_some_iff.1 h
    cases h
    rw [retV_eq ok h0]
    rfl
  · cases h
def spec_Shifts_dec (res : Res T) : Option (List Int × Bool) := match res.rets, res.outs with
  | [a0, a1], [] => (retV (T := T) 24 a0).bind fun r0 => (retV (T := T) 4 a1).bind fun r1 => some (r0, r1)
  | _, _ => none
def spec_Shifts_enc (y : List Int × Bool) : Res T := ⟨[vR T 24 y.1, vR T 4 y.2], []⟩
theorem spec_Shifts_de (res : Res T) (y : List Int × Bool) (h : spec_Shifts_dec res = some y) : res = spec_Shifts_enc y := by
  obtain ⟨rets, outs⟩ := res
  unfold spec_Shifts_dec at h
  dsimp only at h
  split at h
  · obtain ⟨r0, h0, h⟩ := Option.bind_eq_some_iff.1 h
    obtain ⟨r1, h1, h⟩ := Option.bind_eq_some_iff.1 h
    cases h
    rw [retV_eq ok h0, retV_eq ok h1]
    rfl
  · cases h
def impl_in_dec (res : Res T) : Option Bool := match res.rets, res.outs with
  | [a0], [] => (retV (T := T) 4 a0).bind fun r0 => some (r0)
  | _, _ => none
def impl_in_enc (y : Bool) : Res T := ⟨[vR T 4 y], []⟩
theorem impl_in_de (res : Res T) (y : Bool) (h : impl_in_dec res = some y) : res = impl_in_enc y := by
  obtain ⟨rets, outs⟩ := res
  unfold impl_in_dec at h
  dsimp only at h
  split at h
  · obtain ⟨r0, h0, h⟩ := Option.bind_eq_some_iff.1 h
    cases h
    rw [retV_eq ok h0]
    rfl
  · cases h
def impl_portOk_dec (res : Res T) : Option Bool := match res.rets, res.outs with
  | [a0], [] => (retV (T := T) 4 a0).bind fun r0 => some (r0)
  | _, _ => none
def impl_portOk_enc (y : Bool) : Res T := ⟨[vR T 4 y], []⟩
theorem impl_portOk_de (res : Res T) (y : Bool) (h : impl_portOk_dec res = some y) : res = impl_portOk_enc y := by
  obtain ⟨rets, outs⟩ := res
  unfold impl_portOk_dec at h
  dsimp only at h
  split at h
  · obtain ⟨r0, h0, h⟩ := Option.bind_eq_some_iff.1 h
    cases h
    rw [retV_eq ok h0]
    rfl
  · cases h
def impl_over_dec (res : Res T) : Option Bool := match res.rets, res.outs with
  | [a0], [] => (retV (T := T) 4 a0).bind fun r0 => some (r0)
  | _, _ => none
def impl_over_enc (y : Bool) : Res T := ⟨[vR T 4 y], []⟩
theorem impl_over_de (res : Res T) (y : Bool) (h : impl_over_dec res = some y) : res = impl_over_enc y := by
  obtain ⟨rets, outs⟩ := res
  unfold impl_over_dec at h
  dsimp only at h
  split at h
  · obtain ⟨r0, h0, h⟩ := Option.bind_eq_some_iff.1 h
    cases h
    rw [retV_eq ok h0]
    rfl
  · cases h
def impl_own_int_dec (res : Res T) : Option (List Int) := match res.rets, res.outs with
  | [a0], [] => (retV (T := T) 24 a0).bind fun r0 => some (r0)
  | _, _ => none
def impl_own_int_enc (y : List Int) : Res T := ⟨[vR T 24 y], []⟩
theorem impl_own_int_de (res : Res T) (y : List Int) (h : impl_own_int_dec res = some y) : res = impl_own_int_enc y := by
  obtain ⟨rets, outs⟩ := res
  unfold impl_own_int_dec at h
  dsimp only at h
  split at h
  · obtain ⟨r0, h0, h⟩ := Option.bind_eq_some_iff.1 h
    cases h
    rw [retV_eq ok h0]
    rfl
  · cases h
def impl_Shifts_dec (res : Res T) : Option (List Int × Bool) := match res.rets, res.outs with
  | [a0, a1], [] => (retV (T := T) 24 a0).bind fun r0 => (retV (T := T) 4 a1).bind fun r1 => some (r0, r1)
  | _, _ => none
def impl_Shifts_enc (y : List Int × Bool) : Res T := ⟨[vR T 24 y.1, vR T 4 y.2], []⟩
theorem impl_Shifts_de (res : Res T) (y : List Int × Bool) (h : impl_Shifts_dec res = some y) : res = impl_Shifts_enc y := by
  obtain ⟨rets, outs⟩ := res
  unfold impl_Shifts_dec at h
  dsimp only at h
  split at h
  · obtain ⟨r0, h0, h⟩ := Option.bind_eq_some_iff.1 h
    obtain ⟨r1, h1, h⟩ := Option.bind_eq_some_iff.1 h
    cases h
    rw [retV_eq ok h0, retV_eq ok h1]
    rfl
  · cases h
def laws_eqIntS_dec (res : Res T) : Option Bool := match res.rets, res.outs with
  | [a0], [] => (retV (T := T) 4 a0).bind fun r0 => some (r0)
  | _, _ => none
def laws_eqIntS_enc (y : Bool) : Res T := ⟨[vR T 4 y], []⟩
theorem laws_eqIntS_de (res : Res T) (y : Bool) (h : laws_eqIntS_dec res = some y) : res = laws_eqIntS_enc y := by
  obtain ⟨rets, outs⟩ := res
  unfold laws_eqIntS_dec at h
  dsimp only at h
  split at h
  · obtain ⟨r0, h0, h⟩ := Option.bind_eq_some_iff.1 h
    cases h
    rw [retV_eq ok h0]
    rfl
  · cases h
def laws_eqBox_dec (res : Res T) : Option Bool := match res.rets, res.outs with
  | [a0], [] => (retV (T := T) 4 a0).bind fun r0 => some (r0)
  | _, _ => none
def laws_eqBox_enc (y : Bool) : Res T := ⟨[vR T 4 y], []⟩
theorem laws_eqBox_de (res : Res T) (y : Bool) (h : laws_eqBox_dec res = some y) : res = laws_eqBox_enc y := by
  obtain ⟨rets, outs⟩ := res
  unfold laws_eqBox_dec at h
  dsimp only at h
  split at h
  · obtain ⟨r0, h0, h⟩ := Option.bind_eq_some_iff.1 h
    cases h
    rw [retV_eq ok h0]
    rfl
  · cases h
def laws_eqSpot_dec (res : Res T) : Option Bool := match res.rets, res.outs with
  | [a0], [] => (retV (T := T) 4 a0).bind fun r0 => some (r0)
  | _, _ => none
def laws_eqSpot_enc (y : Bool) : Res T := ⟨[vR T 4 y], []⟩
theorem laws_eqSpot_de (res : Res T) (y : Bool) (h : laws_eqSpot_dec res = some y) : res = laws_eqSpot_enc y := by
  obtain ⟨rets, outs⟩ := res
  unfold laws_eqSpot_dec at h
  dsimp only at h
  split at h
  · obtain ⟨r0, h0, h⟩ := Option.bind_eq_some_iff.1 h
    cases h
    rw [retV_eq ok h0]
    rfl
  · cases h
def laws_eqStow_dec (res : Res T) : Option Bool := match res.rets, res.outs with
  | [a0], [] => (retV (T := T) 4 a0).bind fun r0 => some (r0)
  | _, _ => none
def laws_eqStow_enc (y : Bool) : Res T := ⟨[vR T 4 y], []⟩
theorem laws_eqStow_de (res : Res T) (y : Bool) (h : laws_eqStow_dec res = some y) : res = laws_eqStow_enc y := by
  obtain ⟨rets, outs⟩ := res
  unfold laws_eqStow_dec at h
  dsimp only at h
  split at h
  · obtain ⟨r0, h0, h⟩ := Option.bind_eq_some_iff.1 h
    cases h
    rw [retV_eq ok h0]
    rfl
  · cases h
def laws_eqStowS_dec (res : Res T) : Option Bool := match res.rets, res.outs with
  | [a0], [] => (retV (T := T) 4 a0).bind fun r0 => some (r0)
  | _, _ => none
def laws_eqStowS_enc (y : Bool) : Res T := ⟨[vR T 4 y], []⟩
theorem laws_eqStowS_de (res : Res T) (y : Bool) (h : laws_eqStowS_dec res = some y) : res = laws_eqStowS_enc y := by
  obtain ⟨rets, outs⟩ := res
  unfold laws_eqStowS_dec at h
  dsimp only at h
  split at h
  · obtain ⟨r0, h0, h⟩ := Option.bind_eq_some_iff.1 h
    cases h
    rw [retV_eq ok h0]
    rfl
  · cases h
def laws_markText_dec (res : Res T) : Option ByteArray := match res.rets, res.outs with
  | [a0], [] => (retV (T := T) 9 a0).bind fun r0 => some (r0)
  | _, _ => none
def laws_markText_enc (y : ByteArray) : Res T := ⟨[vR T 9 y], []⟩
theorem laws_markText_de (res : Res T) (y : ByteArray) (h : laws_markText_dec res = some y) : res = laws_markText_enc y := by
  obtain ⟨rets, outs⟩ := res
  unfold laws_markText_dec at h
  dsimp only at h
  split at h
  · obtain ⟨r0, h0, h⟩ := Option.bind_eq_some_iff.1 h
    cases h
    rw [retV_eq ok h0]
    rfl
  · cases h
def laws_markStowS_dec (res : Res T) : Option (Int × List SStow) := match res.rets, res.outs with
  | [a0], [b0] => (retV (T := T) 3 a0).bind fun r0 => (outS (T := T) 155 b0).bind fun r1 => some (r0, r1)
  | _, _ => none
def laws_markStowS_enc (y : Int × List SStow) : Res T := ⟨[vR T 3 y.1], [.sl 155 y.2]⟩
theorem laws_markStowS_de (res : Res T) (y : Int × List SStow) (h : laws_markStowS_dec res = some y) : res = laws_markStowS_enc y := by
  obtain ⟨rets, outs⟩ := res
  unfold laws_markStowS_dec at h
  dsimp only at h
  split at h
  · obtain ⟨r0, h0, h⟩ := Option.bind_eq_some_iff.1 h
    obtain ⟨r1, h1, h⟩ := Option.bind_eq_some_iff.1 h
    cases h
    rw [retV_eq ok h0, outS_eq h1]
    rfl
  · cases h
def laws_markIntS_dec (res : Res T) : Option (Int × List Int) := match res.rets, res.outs with
  | [a0], [b0] => (retV (T := T) 3 a0).bind fun r0 => (outS (T := T) 3 b0).bind fun r1 => some (r0, r1)
  | _, _ => none
def laws_markIntS_enc (y : Int × List Int) : Res T := ⟨[vR T 3 y.1], [.sl 3 y.2]⟩
theorem laws_markIntS_de (res : Res T) (y : Int × List Int) (h : laws_markIntS_dec res = some y) : res = laws_markIntS_enc y := by
  obtain ⟨rets, outs⟩ := res
  unfold laws_markIntS_dec at h
  dsimp only at h
  split at h
  · obtain ⟨r0, h0, h⟩ := Option.bind_eq_some_iff.1 h
    obtain ⟨r1, h1, h⟩ := Option.bind_eq_some_iff.1 h
    cases h
    rw [retV_eq ok h0, outS_eq h1]
    rfl
  · cases h
def laws_heldIntS_dec (res : Res T) : Option Int := match res.rets, res.outs with
  | [a0], [] => (retV (T := T) 3 a0).bind fun r0 => some (r0)
  | _, _ => none
def laws_heldIntS_enc (y : Int) : Res T := ⟨[vR T 3 y], []⟩
theorem laws_heldIntS_de (res : Res T) (y : Int) (h : laws_heldIntS_dec res = some y) : res = laws_heldIntS_enc y := by
  obtain ⟨rets, outs⟩ := res
  unfold laws_heldIntS_dec at h
  dsimp only at h
  split at h
  · obtain ⟨r0, h0, h⟩ := Option.bind_eq_some_iff.1 h
    cases h
    rw [retV_eq ok h0]
    rfl
  · cases h
def laws_FnExactShifts_dec (res : Res T) : Option Bool := match res.rets, res.outs with
  | [a0], [] => (retV (T := T) 4 a0).bind fun r0 => some (r0)
  | _, _ => none
def laws_FnExactShifts_enc (y : Bool) : Res T := ⟨[vR T 4 y], []⟩
theorem laws_FnExactShifts_de (res : Res T) (y : Bool) (h : laws_FnExactShifts_dec res = some y) : res = laws_FnExactShifts_enc y := by
  obtain ⟨rets, outs⟩ := res
  unfold laws_FnExactShifts_dec at h
  dsimp only at h
  split at h
  · obtain ⟨r0, h0, h⟩ := Option.bind_eq_some_iff.1 h
    cases h
    rw [retV_eq ok h0]
    rfl
  · cases h
def laws_szBox_D (n : Nat) (ar : List (A T)) : Option Int := match ar with
  | [a0, a1] => (argV (T := T) 145 a0).bind fun a0 => (argV (T := T) 3 a1).bind fun left1 => laws_szBox n a0 left1
  | _ => none
def laws_szBox_ent (n : Nat) : Ent T := ⟨207, 0, [], Int, laws_szBox_D n, laws_szBox_enc⟩
def laws_szStow_D (n : Nat) (ar : List (A T)) : Option Int := match ar with
  | [a0, a1] => (argV (T := T) 149 a0).bind fun a0 => (argV (T := T) 3 a1).bind fun left1 => laws_szStow n a0 left1
  | _ => none
def laws_szStow_ent (n : Nat) : Ent T := ⟨100, 1, [], Int, laws_szStow_D n, laws_szStow_enc⟩
def laws_szStowS_D (n : Nat) (ar : List (A T)) : Option Int := match ar with
  | [a0, a1] => (argV (T := T) 22 a0).bind fun a0 => (argV (T := T) 3 a1).bind fun left1 => laws_szStowS n a0 left1
  | _ => none
def laws_szStowS_ent (n : Nat) : Ent T := ⟨15, 2, [], Int, laws_szStowS_D n, laws_szStowS_enc⟩
def laws_toBox_D (n : Nat) (ar : List (A T)) : Option SBox := match ar with
  | [a0] => (argV (T := T) 145 a0).bind fun a0 => laws_toBox n a0
  | _ => none
def laws_toBox_ent (n : Nat) : Ent T := ⟨208, 3, [], SBox, laws_toBox_D n, laws_toBox_enc⟩
def laws_toSpot_D (n : Nat) (ar : List (A T)) : Option SSpot := match ar with
  | [a0] => (argV (T := T) 147 a0).bind fun a0 => laws_toSpot n a0
  | _ => none
def laws_toSpot_ent (n : Nat) : Ent T := ⟨209, 4, [], SSpot, laws_toSpot_D n, laws_toSpot_enc⟩
def laws_toStow_D (n : Nat) (ar : List (A T)) : Option SStow := match ar with
  | [a0] => (argV (T := T) 149 a0).bind fun a0 => laws_toStow n a0
  | _ => none
def laws_toStow_ent (n : Nat) : Ent T := ⟨103, 5, [], SStow, laws_toStow_D n, laws_toStow_enc⟩
def laws_toStowS_D (n : Nat) (ar : List (A T)) : Option (List SStow) := match ar with
  | [a0] => (argV (T := T) 22 a0).bind fun a0 => laws_toStowS n a0
  | _ => none
def laws_toStowS_ent (n : Nat) : Ent T := ⟨17, 6, [], List SStow, laws_toStowS_D n, laws_toStowS_enc⟩
def spec_l1In_D (n : Nat) (ar : List (A T)) : Option Bool := match ar with
  | [a0, a1, a2] => (argV (T := T) 3 a0).bind fun x0 => (argV (T := T) 3 a1).bind fun a1 => (argV (T := T) 3 a2).bind fun b2 => spec_l1In n x0 a1 b2
  | _ => none
def spec_l1In_ent (n : Nat) : Ent T := ⟨101, 7, [], Bool, spec_l1In_D n, spec_l1In_enc⟩
def spec_l12At_D (n : Nat) (ar : List (A T)) : Option Int := match ar with
  | [a0, a1] => (argV (T := T) 27 a0).bind fun list0 => (argV (T := T) 153 a1).bind fun s1 => spec_l12At n list0 s1
  | _ => none
def spec_l12At_ent (n : Nat) : Ent T := ⟨102, 8, [], Int, spec_l12At_D n, spec_l12At_enc⟩
def spec_Shifts_D (n : Nat) (ar : List (A T)) : Option (List Int × Bool) := match ar with
  | [a0, a1] => (argV (T := T) 27 a0).bind fun list0 => (argV (T := T) 3 a1).bind fun port1 => spec_Shifts n list0 port1
  | _ => none
def spec_Shifts_ent (n : Nat) : Ent T := ⟨16, 9, [], List Int × Bool, spec_Shifts_D n, spec_Shifts_enc⟩
def impl_in_D (n : Nat) (ar : List (A T)) : Option Bool := match ar with
  | [a0, a1, a2] => (argV (T := T) 3 a0).bind fun n0 => (argV (T := T) 3 a1).bind fun least1 => (argV (T := T) 3 a2).bind fun most2 => impl_in n n0 least1 most2
  | _ => none
def impl_in_ent (n : Nat) : Ent T := ⟨113, 10, [], Bool, impl_in_D n, impl_in_enc⟩
def impl_portOk_D (n : Nat) (ar : List (A T)) : Option Bool := match ar with
  | [a0] => (argV (T := T) 3 a0).bind fun n0 => impl_portOk n n0
  | _ => none
def impl_portOk_ent (n : Nat) : Ent T := ⟨104, 11, [], Bool, impl_portOk_D n, impl_portOk_enc⟩
def impl_over_D (n : Nat) (ar : List (A T)) : Option Bool := match ar with
  | [a0, a1] => (argV (T := T) 153 a0).bind fun a0 => (argV (T := T) 153 a1).bind fun b1 => impl_over n a0 b1
  | _ => none
def impl_over_ent (n : Nat) : Ent T := ⟨105, 12, [], Bool, impl_over_D n, impl_over_enc⟩
def impl_own_int_D (n : Nat) (ar : List (A T)) : Option (List Int) := match ar with
  | [a0] => (argV (T := T) 24 a0).bind fun l0 => impl_own_int n l0
  | _ => none
def impl_own_int_ent (n : Nat) : Ent T := ⟨106, 13, [], List Int, impl_own_int_D n, impl_own_int_enc⟩
def impl_Shifts_D (n : Nat) (ar : List (A T)) : Option (List Int × Bool) := match ar with
  | [a0, a1] => (argV (T := T) 27 a0).bind fun list0 => (argV (T := T) 3 a1).bind fun port1 => impl_Shifts n list0 port1
  | _ => none
def impl_Shifts_ent (n : Nat) : Ent T := ⟨18, 14, [], List Int × Bool, impl_Shifts_D n, impl_Shifts_enc⟩
def laws_eqIntS_D (n : Nat) (ar : List (A T)) : Option Bool := match ar with
  | [a0, a1] => (argV (T := T) 24 a0).bind fun a0 => (argV (T := T) 24 a1).bind fun b1 => laws_eqIntS n a0 b1
  | _ => none
def laws_eqIntS_ent (n : Nat) : Ent T := ⟨19, 15, [], Bool, laws_eqIntS_D n, laws_eqIntS_enc⟩
def laws_eqBox_D (n : Nat) (ar : List (A T)) : Option Bool := match ar with
  | [a0, a1] => (argV (T := T) 152 a0).bind fun a0 => (argV (T := T) 152 a1).bind fun b1 => laws_eqBox n a0 b1
  | _ => none
def laws_eqBox_ent (n : Nat) : Ent T := ⟨210, 16, [], Bool, laws_eqBox_D n, laws_eqBox_enc⟩
def laws_eqSpot_D (n : Nat) (ar : List (A T)) : Option Bool := match ar with
  | [a0, a1] => (argV (T := T) 153 a0).bind fun a0 => (argV (T := T) 153 a1).bind fun b1 => laws_eqSpot n a0 b1
  | _ => none
def laws_eqSpot_ent (n : Nat) : Ent T := ⟨211, 17, [], Bool, laws_eqSpot_D n, laws_eqSpot_enc⟩
def laws_eqStow_D (n : Nat) (ar : List (A T)) : Option Bool := match ar with
  | [a0, a1] => (argV (T := T) 155 a0).bind fun a0 => (argV (T := T) 155 a1).bind fun b1 => laws_eqStow n a0 b1
  | _ => none
def laws_eqStow_ent (n : Nat) : Ent T := ⟨107, 18, [], Bool, laws_eqStow_D n, laws_eqStow_enc⟩
def laws_eqStowS_D (n : Nat) (ar : List (A T)) : Option Bool := match ar with
  | [a0, a1] => (argV (T := T) 27 a0).bind fun a0 => (argV (T := T) 27 a1).bind fun b1 => laws_eqStowS n a0 b1
  | _ => none
def laws_eqStowS_ent (n : Nat) : Ent T := ⟨20, 19, [], Bool, laws_eqStowS_D n, laws_eqStowS_enc⟩
def laws_markText_D (n : Nat) (ar : List (A T)) : Option ByteArray := match ar with
  | [a0] => (argV (T := T) 3 a0).bind fun k0 => laws_markText n k0
  | _ => none
def laws_markText_ent (n : Nat) : Ent T := ⟨108, 20, [], ByteArray, laws_markText_D n, laws_markText_enc⟩
def laws_markStowS_D (n : Nat) (ar : List (A T)) : Option (Int × List SStow) := match ar with
  | [a0, a1] => (argV (T := T) 27 a0).bind fun a0 => (argV (T := T) 3 a1).bind fun k1 => laws_markStowS n a0 k1
  | _ => none
def laws_markStowS_ent (n : Nat) : Ent T := ⟨21, 21, [], Int × List SStow, laws_markStowS_D n, laws_markStowS_enc⟩
def laws_markIntS_D (n : Nat) (ar : List (A T)) : Option (Int × List Int) := match ar with
  | [a0, a1] => (argV (T := T) 24 a0).bind fun a0 => (argV (T := T) 3 a1).bind fun k1 => laws_markIntS n a0 k1
  | _ => none
def laws_markIntS_ent (n : Nat) : Ent T := ⟨22, 22, [], Int × List Int, laws_markIntS_D n, laws_markIntS_enc⟩
def laws_heldIntS_D (n : Nat) (ar : List (A T)) : Option Int := match ar with
  | [a0, a1] => (argV (T := T) 24 a0).bind fun a0 => (argV (T := T) 3 a1).bind fun k1 => laws_heldIntS n a0 k1
  | _ => none
def laws_heldIntS_ent (n : Nat) : Ent T := ⟨23, 23, [], Int, laws_heldIntS_D n, laws_heldIntS_enc⟩
def laws_FnExactShifts_D (n : Nat) (ar : List (A T)) : Option Bool := match ar with
  | [a0, a1] => (argV (T := T) 22 a0).bind fun aList0 => (argV (T := T) 3 a1).bind fun aPort1 => laws_FnExactShifts n aList0 aPort1
  | _ => none
def laws_FnExactShifts_ent (n : Nat) : Ent T := ⟨3, 24, [], Bool, laws_FnExactShifts_D n, laws_FnExactShifts_enc⟩
def ents (n : Nat) : List (Ent T) := [laws_szBox_ent n, laws_szStow_ent n, laws_szStowS_ent n, laws_toBox_ent n, laws_toSpot_ent n, laws_toStow_ent n, laws_toStowS_ent n, spec_l1In_ent n, spec_l12At_ent n, spec_Shifts_ent n, impl_in_ent n, impl_portOk_ent n, impl_over_ent n, impl_own_int_ent n, impl_Shifts_ent n, laws_eqIntS_ent n, laws_eqBox_ent n, laws_eqSpot_ent n, laws_eqStow_ent n, laws_eqStowS_ent n, laws_markText_ent n, laws_markStowS_ent n, laws_markIntS_ent n, laws_heldIntS_ent n, laws_FnExactShifts_ent n]
abbrev Phi (n i : Nat) {R : Type} (f : Nat) (ar : List (A T)) (K : Res T → Option R) : Option R := PhiE (ents n) i f ar K
theorem mixed : Try.prog.follows .mixedOrders = true := by kernel_rfl
noncomputable def laws_szBox_code : Code := match Try.f207.body with | some c => c | none => .skip
def laws_szBox_ann : Ann := fun id => none
def laws_szBox_Ls (n : Nat) : Nat → Option (LSpec T) := fun id => none
theorem laws_szBox_tie (n : Nat) (a0 : SBox) (left1 : Int) : evF (T := T) (Phi n 0) (laws_szBox_Ls n) laws_szBox_ann n Try.f207 (sg 207) [vA T 145 a0, vA T 3 left1] laws_szBox_dec = laws_szBox n a0 left1 := by kernel_rfl
theorem laws_szBox_lo (n : Nat) : LoopsOk (T := T) (Phi n 0) (laws_szBox_Ls n) laws_szBox_ann n laws_szBox_code := loopsOk_all (cs := []) (by kernel_rfl) trivial
theorem laws_szBox_ok (n : Nat) : EntOk Try.prog (ents n) (laws_szBox_ent n) := by
  intro hs ar y hg h
  have h : laws_szBox_D n ar = some y := h
  unfold laws_szBox_D at h
  split at h
  · obtain ⟨a0, h0, h⟩ := Option.bind_eq_some_iff.1 h
    obtain ⟨left1, h1, h⟩ := Option.bind_eq_some_iff.1 h
    rw [argV_eq ok h0, argV_eq ok h1]
    exact call_of (phiE_nat _ _) hs ok mixed Try.func207 (c := laws_szBox_code) (by kernel_rfl) (laws_szBox_lo n) (by kernel_rfl) (by kernel_rfl) (by kernel_rfl) laws_szBox_de ((laws_szBox_tie n a0 left1).trans h)
  · cases h
noncomputable def laws_szStow_code : Code := match Try.f100.body with | some c => c | none => .skip
def laws_szStow_ann : Ann := fun id => none
def laws_szStow_Ls (n : Nat) : Nat → Option (LSpec T) := fun id => none
theorem laws_szStow_tie (n : Nat) (a0 : SStow) (left1 : Int) : evF (T := T) (Phi n 1) (laws_szStow_Ls n) laws_szStow_ann n Try.f100 (sg 100) [vA T 149 a0, vA T 3 left1] laws_szStow_dec = laws_szStow n a0 left1 := by kernel_rfl
theorem laws_szStow_lo (n : Nat) : LoopsOk (T := T) (Phi n 1) (laws_szStow_Ls n) laws_szStow_ann n laws_szStow_code := loopsOk_all (cs := []) (by kernel_rfl) trivial
theorem laws_szStow_ok (n : Nat) : EntOk Try.prog (ents n) (laws_szStow_ent n) := by
  intro hs ar y hg h
  have h : laws_szStow_D n ar = some y := h
  unfold laws_szStow_D at h
  split at h
  · obtain ⟨a0, h0, h⟩ := Option.bind_eq_some_iff.1 h
    obtain ⟨left1, h1, h⟩ := Option.bind_eq_some_iff.1 h
    rw [argV_eq ok h0, argV_eq ok h1]
    exact call_of (phiE_nat _ _) hs ok mixed Try.func100 (c := laws_szStow_code) (by kernel_rfl) (laws_szStow_lo n) (by kernel_rfl) (by kernel_rfl) (by kernel_rfl) laws_szStow_de ((laws_szStow_tie n a0 left1).trans h)
  · cases h
noncomputable def laws_szStowS_code : Code := match Try.f15.body with | some c => c | none => .skip
def laws_szStowS_5_sv : List Sv := [.one (.arr 149), .one (.int .i64), .one (.int .i64)]
def laws_szStowS_5_so : List So := []
def laws_szStowS_5_emb (c : List SStow) (x : Int × Int) : EVs T laws_szStowS_5_sv × EOs T laws_szStowS_5_so := ((c, x.1, x.2, ()), ())
def laws_szStowS_5_prj (y : EVs T laws_szStowS_5_sv × EOs T laws_szStowS_5_so) : List SStow × (Int × Int) := ((y.1.1), (y.1.2.1, y.1.2.2.1))
def laws_szStowS_5_b (n : Nat) {R : Type} (K : Ex → Sm.St T → Option R) (c : List SStow) (x : Int × Int) (J : (Int × Int) → Option R) : Option R :=
  laws_szStowS_L5 n (fun (y0 : Int) => K (.exit 0) (stOf (T := T) [1] [] [.one (.int .i64)] [] (y0, ()) ())) (fun (y0 : Int) => K .ret (stOf (T := T) [4] [] [.one (.int .i64)] [] (y0, ()) ())) (fun z0 z1 => J (z0, z1)) c x.1 x.2
def laws_szStowS_5_sp (n : Nat) : LSpec T := mkSpec T ⟨[], [0, 1, 5], []⟩ laws_szStowS_5_sv laws_szStowS_5_so (List SStow) (Int × Int) laws_szStowS_5_emb laws_szStowS_5_prj (laws_szStowS_5_b n)
noncomputable def laws_szStowS_5_c : Code := ((loopCodes laws_szStowS_code)[0]?).getD .skip
def laws_szStowS_ann : Ann := fun id => bif Nat.beq id 3000005 then some ⟨[], [1], []⟩ else bif Nat.beq id 2000005 then some ⟨[], [4], []⟩ else none
def laws_szStowS_Ls (n : Nat) : Nat → Option (LSpec T) := fun id => bif Nat.beq id 5 then some (laws_szStowS_5_sp n) else none
theorem laws_szStowS_5_le (n : Nat) : LoopEq (T := T) (Phi n 2) (laws_szStowS_Ls n) laws_szStowS_ann n laws_szStowS_5_c (laws_szStowS_5_sp n) := ⟨mkSpec_dec (fun y => rfl), fun c x => by kernel_rfl, fun K J c x => by kernel_rfl⟩
theorem laws_szStowS_tie (n : Nat) (a0 : List SStow) (left1 : Int) : evF (T := T) (Phi n 2) (laws_szStowS_Ls n) laws_szStowS_ann n Try.f15 (sg 15) [vA T 22 a0, vA T 3 left1] laws_szStowS_dec = laws_szStowS n a0 left1 := by kernel_rfl
theorem laws_szStowS_lo (n : Nat) : LoopsOk (T := T) (Phi n 2) (laws_szStowS_Ls n) laws_szStowS_ann n laws_szStowS_code := loopsOk_all (cs := [laws_szStowS_5_c]) (by kernel_rfl) ⟨⟨_, by kernel_rfl, laws_szStowS_5_le n⟩, trivial⟩
theorem laws_szStowS_ok (n : Nat) : EntOk Try.prog (ents n) (laws_szStowS_ent n) := by
  intro hs ar y hg h
  have h : laws_szStowS_D n ar = some y := h
  unfold laws_szStowS_D at h
  split at h
  · obtain ⟨a0, h0, h⟩ := Option.bind_eq_some_iff.1 h
    obtain ⟨left1, h1, h⟩ := Option.bind_eq_some_iff.1 h
    rw [argV_eq ok h0, argV_eq ok h1]
    exact call_of (phiE_nat _ _) hs ok mixed Try.func15 (c := laws_szStowS_code) (by kernel_rfl) (laws_szStowS_lo n) (by kernel_rfl) (by kernel_rfl) (by kernel_rfl) laws_szStowS_de ((laws_szStowS_tie n a0 left1).trans h)
  · cases h
noncomputable def laws_toBox_code : Code := match Try.f208.body with | some c => c | none => .skip
def laws_toBox_ann : Ann := fun id => none
def laws_toBox_Ls (n : Nat) : Nat → Option (LSpec T) := fun id => none
theorem laws_toBox_tie (n : Nat) (a0 : SBox) : evF (T := T) (Phi n 3) (laws_toBox_Ls n) laws_toBox_ann n Try.f208 (sg 208) [vA T 145 a0] laws_toBox_dec = laws_toBox n a0 := by kernel_rfl
theorem laws_toBox_lo (n : Nat) : LoopsOk (T := T) (Phi n 3) (laws_toBox_Ls n) laws_toBox_ann n laws_toBox_code := loopsOk_all (cs := []) (by kernel_rfl) trivial
theorem laws_toBox_ok (n : Nat) : EntOk Try.prog (ents n) (laws_toBox_ent n) := by
  intro hs ar y hg h
  have h : laws_toBox_D n ar = some y := h
  unfold laws_toBox_D at h
  split at h
  · obtain ⟨a0, h0, h⟩ := Option.bind_eq_some_iff.1 h
    rw [argV_eq ok h0]
    exact call_of (phiE_nat _ _) hs ok mixed Try.func208 (c := laws_toBox_code) (by kernel_rfl) (laws_toBox_lo n) (by kernel_rfl) (by kernel_rfl) (by kernel_rfl) laws_toBox_de ((laws_toBox_tie n a0).trans h)
  · cases h
noncomputable def laws_toSpot_code : Code := match Try.f209.body with | some c => c | none => .skip
def laws_toSpot_ann : Ann := fun id => none
def laws_toSpot_Ls (n : Nat) : Nat → Option (LSpec T) := fun id => none
theorem laws_toSpot_tie (n : Nat) (a0 : SSpot) : evF (T := T) (Phi n 4) (laws_toSpot_Ls n) laws_toSpot_ann n Try.f209 (sg 209) [vA T 147 a0] laws_toSpot_dec = laws_toSpot n a0 := by kernel_rfl
theorem laws_toSpot_lo (n : Nat) : LoopsOk (T := T) (Phi n 4) (laws_toSpot_Ls n) laws_toSpot_ann n laws_toSpot_code := loopsOk_all (cs := []) (by kernel_rfl) trivial
theorem laws_toSpot_ok (n : Nat) : EntOk Try.prog (ents n) (laws_toSpot_ent n) := by
  intro hs ar y hg h
  have h : laws_toSpot_D n ar = some y := h
  unfold laws_toSpot_D at h
  split at h
  · obtain ⟨a0, h0, h⟩ := Option.bind_eq_some_iff.1 h
    rw [argV_eq ok h0]
    exact call_of (phiE_nat _ _) hs ok mixed Try.func209 (c := laws_toSpot_code) (by kernel_rfl) (laws_toSpot_lo n) (by kernel_rfl) (by kernel_rfl) (by kernel_rfl) laws_toSpot_de ((laws_toSpot_tie n a0).trans h)
  · cases h
noncomputable def laws_toStow_code : Code := match Try.f103.body with | some c => c | none => .skip
def laws_toStow_ann : Ann := fun id => none
def laws_toStow_Ls (n : Nat) : Nat → Option (LSpec T) := fun id => none
theorem laws_toStow_tie (n : Nat) (a0 : SStow) : evF (T := T) (Phi n 5) (laws_toStow_Ls n) laws_toStow_ann n Try.f103 (sg 103) [vA T 149 a0] laws_toStow_dec = laws_toStow n a0 := by kernel_rfl
theorem laws_toStow_lo (n : Nat) : LoopsOk (T := T) (Phi n 5) (laws_toStow_Ls n) laws_toStow_ann n laws_toStow_code := loopsOk_all (cs := []) (by kernel_rfl) trivial
theorem laws_toStow_ok (n : Nat) : EntOk Try.prog (ents n) (laws_toStow_ent n) := by
  intro hs ar y hg h
  have h : laws_toStow_D n ar = some y := h
  unfold laws_toStow_D at h
  split at h
  · obtain ⟨a0, h0, h⟩ := Option.bind_eq_some_iff.1 h
    rw [argV_eq ok h0]
    exact call_of (phiE_nat _ _) hs ok mixed Try.func103 (c := laws_toStow_code) (by kernel_rfl) (laws_toStow_lo n) (by kernel_rfl) (by kernel_rfl) (by kernel_rfl) laws_toStow_de ((laws_toStow_tie n a0).trans h)
  · cases h
noncomputable def laws_toStowS_code : Code := match Try.f17.body with | some c => c | none => .skip
def laws_toStowS_3_sv : List Sv := [.one (.arr 149), .one (.own 3000000 155 false), .one (.int .i64)]
def laws_toStowS_3_so : List So := [.arr 155 false]
def laws_toStowS_3_emb (c : List SStow) (x : Int × List SStow) : EVs T laws_toStowS_3_sv × EOs T laws_toStowS_3_so := ((c, (), x.1, ()), (x.2, ()))
def laws_toStowS_3_prj (y : EVs T laws_toStowS_3_sv × EOs T laws_toStowS_3_so) : List SStow × (Int × List SStow) := ((y.1.1), (y.1.2.2.1, y.2.1))
def laws_toStowS_3_b (n : Nat) {R : Type} (K : Ex → Sm.St T → Option R) (c : List SStow) (x : Int × List SStow) (J : (Int × List SStow) → Option R) : Option R :=
  laws_toStowS_L3 n (fun (y0 : List SStow) => K (.exit 0) (stOf (T := T) [3] [3000000] [.one (.own 3000000 155 false)] [.arr 155 false] ((), ()) (y0, ()))) (fun z0 z1 => J (z0, z1)) c x.1 x.2
def laws_toStowS_3_sp (n : Nat) : LSpec T := mkSpec T ⟨[((.reg 3), 3000000, 155)], [0, 3, 4], [3000000]⟩ laws_toStowS_3_sv laws_toStowS_3_so (List SStow) (Int × List SStow) laws_toStowS_3_emb laws_toStowS_3_prj (laws_toStowS_3_b n)
noncomputable def laws_toStowS_3_c : Code := ((loopCodes laws_toStowS_code)[0]?).getD .skip
def laws_toStowS_ann : Ann := fun id => bif Nat.beq id 3000003 then some ⟨[((.reg 3), 3000000, 155)], [3], [3000000]⟩ else none
def laws_toStowS_Ls (n : Nat) : Nat → Option (LSpec T) := fun id => bif Nat.beq id 3 then some (laws_toStowS_3_sp n) else none
theorem laws_toStowS_3_le (n : Nat) : LoopEq (T := T) (Phi n 6) (laws_toStowS_Ls n) laws_toStowS_ann n laws_toStowS_3_c (laws_toStowS_3_sp n) := ⟨mkSpec_dec (fun y => rfl), fun c x => by kernel_rfl, fun K J c x => by kernel_rfl⟩
theorem laws_toStowS_tie (n : Nat) (a0 : List SStow) : evF (T := T) (Phi n 6) (laws_toStowS_Ls n) laws_toStowS_ann n Try.f17 (sg 17) [vA T 22 a0] laws_toStowS_dec = laws_toStowS n a0 := by kernel_rfl
theorem laws_toStowS_lo (n : Nat) : LoopsOk (T := T) (Phi n 6) (laws_toStowS_Ls n) laws_toStowS_ann n laws_toStowS_code := loopsOk_all (cs := [laws_toStowS_3_c]) (by kernel_rfl) ⟨⟨_, by kernel_rfl, laws_toStowS_3_le n⟩, trivial⟩
theorem laws_toStowS_ok (n : Nat) : EntOk Try.prog (ents n) (laws_toStowS_ent n) := by
  intro hs ar y hg h
  have h : laws_toStowS_D n ar = some y := h
  unfold laws_toStowS_D at h
  split at h
  · obtain ⟨a0, h0, h⟩ := Option.bind_eq_some_iff.1 h
    rw [argV_eq ok h0]
    exact call_of (phiE_nat _ _) hs ok mixed Try.func17 (c := laws_toStowS_code) (by kernel_rfl) (laws_toStowS_lo n) (by kernel_rfl) (by kernel_rfl) (by kernel_rfl) laws_toStowS_de ((laws_toStowS_tie n a0).trans h)
  · cases h
noncomputable def spec_l1In_code : Code := match Try.f101.body with | some c => c | none => .skip
def spec_l1In_ann : Ann := fun id => none
def spec_l1In_Ls (n : Nat) : Nat → Option (LSpec T) := fun id => none
theorem spec_l1In_tie (n : Nat) (x0 : Int) (a1 : Int) (b2 : Int) : evF (T := T) (Phi n 7) (spec_l1In_Ls n) spec_l1In_ann n Try.f101 (sg 101) [vA T 3 x0, vA T 3 a1, vA T 3 b2] spec_l1In_dec = spec_l1In n x0 a1 b2 := by kernel_rfl
theorem spec_l1In_lo (n : Nat) : LoopsOk (T := T) (Phi n 7) (spec_l1In_Ls n) spec_l1In_ann n spec_l1In_code := loopsOk_all (cs := []) (by kernel_rfl) trivial
theorem spec_l1In_ok (n : Nat) : EntOk Try.prog (ents n) (spec_l1In_ent n) := by
  intro hs ar y hg h
  have h : spec_l1In_D n ar = some y := h
  unfold spec_l1In_D at h
  split at h
  · obtain ⟨x0, h0, h⟩ := Option.bind_eq_some_iff.1 h
    obtain ⟨a1, h1, h⟩ := Option.bind_eq_some_iff.1 h
    obtain ⟨b2, h2, h⟩ := Option.bind_eq_some_iff.1 h
    rw [argV_eq ok h0, argV_eq ok h1, argV_eq ok h2]
    exact call_of (phiE_nat _ _) hs ok mixed Try.func101 (c := spec_l1In_code) (by kernel_rfl) (spec_l1In_lo n) (by kernel_rfl) (by kernel_rfl) (by kernel_rfl) spec_l1In_de ((spec_l1In_tie n x0 a1 b2).trans h)
  · cases h
noncomputable def spec_l12At_code : Code := match Try.f102.body with | some c => c | none => .skip
def spec_l12At_2_sv : List Sv := [.one (.arr 155), .one (.ptr 24 0 0), .one (.int .i64)]
def spec_l12At_2_so : List So := [.var [.int .i64, .int .i64, .int .i64]]
def spec_l12At_2_emb (c : List SStow × SSpot) (x : Int) : EVs T spec_l12At_2_sv × EOs T spec_l12At_2_so := ((c.1, (), x, ()), ((c.2.Bay, c.2.Row, c.2.Tier, ()), ()))
def spec_l12At_2_prj (y : EVs T spec_l12At_2_sv × EOs T spec_l12At_2_so) : (List SStow × SSpot) × Int := ((y.1.1, ((⟨y.2.1.1, y.2.1.2.1, y.2.1.2.2.1⟩ : SSpot) : SSpot)), (y.1.2.2.1))
def spec_l12At_2_b (n : Nat) {R : Type} (K : Ex → Sm.St T → Option R) (c : List SStow × SSpot) (x : Int) (J : Int → Option R) : Option R :=
  spec_l12At_L2 n (K (.exit 0) (stOf (T := T) [] [] [] [] () ())) (fun (y0 : Int) => K .ret (stOf (T := T) [4] [] [.one (.int .i64)] [] (y0, ()) ())) J c.1 x c.2
def spec_l12At_2_sp (n : Nat) : LSpec T := mkSpec T ⟨[], [0, 3, 5], [24]⟩ spec_l12At_2_sv spec_l12At_2_so (List SStow × SSpot) (Int) spec_l12At_2_emb spec_l12At_2_prj (spec_l12At_2_b n)
noncomputable def spec_l12At_2_c : Code := ((loopCodes spec_l12At_code)[0]?).getD .skip
def spec_l12At_ann : Ann := fun id => bif Nat.beq id 3000002 then some ⟨[], [], []⟩ else bif Nat.beq id 2000002 then some ⟨[], [4], []⟩ else none
def spec_l12At_Ls (n : Nat) : Nat → Option (LSpec T) := fun id => bif Nat.beq id 2 then some (spec_l12At_2_sp n) else none
theorem spec_l12At_2_le (n : Nat) : LoopEq (T := T) (Phi n 8) (spec_l12At_Ls n) spec_l12At_ann n spec_l12At_2_c (spec_l12At_2_sp n) := ⟨mkSpec_dec (fun y => rfl), fun c x => by kernel_rfl, fun K J c x => by kernel_rfl⟩
theorem spec_l12At_tie (n : Nat) (list0 : List SStow) (s1 : SSpot) : evF (T := T) (Phi n 8) (spec_l12At_Ls n) spec_l12At_ann n Try.f102 (sg 102) [vA T 27 list0, vA T 153 s1] spec_l12At_dec = spec_l12At n list0 s1 := by kernel_rfl
theorem spec_l12At_lo (n : Nat) : LoopsOk (T := T) (Phi n 8) (spec_l12At_Ls n) spec_l12At_ann n spec_l12At_code := loopsOk_all (cs := [spec_l12At_2_c]) (by kernel_rfl) ⟨⟨_, by kernel_rfl, spec_l12At_2_le n⟩, trivial⟩
theorem spec_l12At_ok (n : Nat) : EntOk Try.prog (ents n) (spec_l12At_ent n) := by
  intro hs ar y hg h
  have h : spec_l12At_D n ar = some y := h
  unfold spec_l12At_D at h
  split at h
  · obtain ⟨list0, h0, h⟩ := Option.bind_eq_some_iff.1 h
    obtain ⟨s1, h1, h⟩ := Option.bind_eq_some_iff.1 h
    rw [argV_eq ok h0, argV_eq ok h1]
    exact call_of (phiE_nat _ _) hs ok mixed Try.func102 (c := spec_l12At_code) (by kernel_rfl) (spec_l12At_lo n) (by kernel_rfl) (by kernel_rfl) (by kernel_rfl) spec_l12At_de ((spec_l12At_tie n list0 s1).trans h)
  · cases h
noncomputable def spec_Shifts_code : Code := match Try.f16.body with | some c => c | none => .skip
def spec_Shifts_5_sv : List Sv := [.one (.arr 155), .one (.int .i64), .one (.own 3000000 3 false), .one (.int .i64)]
def spec_Shifts_5_so : List So := [.arr 3 false]
def spec_Shifts_5_emb (c : List SStow × Int × List Int) (x : Int) : EVs T spec_Shifts_5_sv × EOs T spec_Shifts_5_so := ((c.1, c.2.1, (), x, ()), (c.2.2, ()))
def spec_Shifts_5_prj (y : EVs T spec_Shifts_5_sv × EOs T spec_Shifts_5_so) : (List SStow × Int × List Int) × Int := ((y.1.1, y.1.2.1, y.2.1), (y.1.2.2.2.1))
def spec_Shifts_5_b (n : Nat) {R : Type} (K : Ex → Sm.St T → Option R) (c : List SStow × Int × List Int) (x : Int) (J : Int → Option R) : Option R :=
  spec_Shifts_L5 n (K (.exit 0) (stOf (T := T) [0, 1, 6] [3000000] [.one (.arr 155), .one (.int .i64), .one (.own 3000000 3 false)] [.arr 3 false] (c.1, c.2.1, (), ()) (c.2.2, ()))) (fun (y0 : Bool) (y1 : List Int) => K .ret (stOf (T := T) [4, 5] [3000001] [.one (.own 3000001 3 false), .one (.bool)] [.arr 3 false] ((), y0, ()) (y1, ()))) J c.1 c.2.1 x c.2.2
def spec_Shifts_5_sp (n : Nat) : LSpec T := mkSpec T ⟨[((.reg 6), 3000000, 3)], [0, 1, 6, 7], [3000000]⟩ spec_Shifts_5_sv spec_Shifts_5_so (List SStow × Int × List Int) (Int) spec_Shifts_5_emb spec_Shifts_5_prj (spec_Shifts_5_b n)
noncomputable def spec_Shifts_5_c : Code := ((loopCodes spec_Shifts_code)[0]?).getD .skip
def spec_Shifts_10_sv : List Sv := [.one (.arr 155), .one (.int .i64), .one (.own 3000000 3 false), .one (.int .i64)]
def spec_Shifts_10_so : List So := [.arr 3 false]
def spec_Shifts_10_emb (c : List SStow × Int) (x : Int × List Int) : EVs T spec_Shifts_10_sv × EOs T spec_Shifts_10_so := ((c.1, c.2, (), x.1, ()), (x.2, ()))
def spec_Shifts_10_prj (y : EVs T spec_Shifts_10_sv × EOs T spec_Shifts_10_so) : (List SStow × Int) × (Int × List Int) := ((y.1.1, y.1.2.1), (y.1.2.2.2.1, y.2.1))
def spec_Shifts_10_b (n : Nat) {R : Type} (K : Ex → Sm.St T → Option R) (c : List SStow × Int) (x : Int × List Int) (J : (Int × List Int) → Option R) : Option R :=
  spec_Shifts_L10 n (fun (y0 : List Int) => K (.exit 2) (stOf (T := T) [6] [3000000] [.one (.own 3000000 3 false)] [.arr 3 false] ((), ()) (y0, ()))) (fun z0 z1 => J (z0, z1)) c.1 c.2 x.1 x.2
def spec_Shifts_10_sp (n : Nat) : LSpec T := mkSpec T ⟨[((.reg 6), 3000000, 3)], [0, 1, 6, 8], [3000000]⟩ spec_Shifts_10_sv spec_Shifts_10_so (List SStow × Int) (Int × List Int) spec_Shifts_10_emb spec_Shifts_10_prj (spec_Shifts_10_b n)
noncomputable def spec_Shifts_10_c : Code := ((loopCodes spec_Shifts_code)[1]?).getD .skip
def spec_Shifts_15_sv : List Sv := [.one (.arr 155), .one (.int .i64), .one (.own 3000000 3 false), .one (.int .i64), .one (.ptr 72 0 0), .one (.bool), .one (.int .i64)]
def spec_Shifts_15_so : List So := [.arr 3 false, .var [.str, .int .i64, .int .i64, .bool, .int .i64, .int .i64, .int .i64, .int .i64, .int .i64]]
def spec_Shifts_15_emb (c : List SStow × Int × Int × List Int × SStow) (x : Bool × Int) : EVs T spec_Shifts_15_sv × EOs T spec_Shifts_15_so := ((c.1, c.2.1, (), c.2.2.1, (), x.1, x.2, ()), (c.2.2.2.1, (c.2.2.2.2.Box.Name, c.2.2.2.2.Box.Weight, c.2.2.2.2.Box.Class, c.2.2.2.2.Box.Cold, c.2.2.2.2.Box.From, c.2.2.2.2.Box.To, c.2.2.2.2.Spot.Bay, c.2.2.2.2.Spot.Row, c.2.2.2.2.Spot.Tier, ()), ()))
def spec_Shifts_15_prj (y : EVs T spec_Shifts_15_sv × EOs T spec_Shifts_15_so) : (List SStow × Int × Int × List Int × SStow) × (Bool × Int) := ((y.1.1, y.1.2.1, y.1.2.2.2.1, y.2.1, ((⟨(⟨y.2.2.1.1, y.2.2.1.2.1, y.2.2.1.2.2.1, y.2.2.1.2.2.2.1, y.2.2.1.2.2.2.2.1, y.2.2.1.2.2.2.2.2.1⟩ : SBox), (⟨y.2.2.1.2.2.2.2.2.2.1, y.2.2.1.2.2.2.2.2.2.2.1, y.2.2.1.2.2.2.2.2.2.2.2.1⟩ : SSpot)⟩ : SStow) : SStow)), (y.1.2.2.2.2.2.1, y.1.2.2.2.2.2.2.1))
def spec_Shifts_15_b (n : Nat) {R : Type} (K : Ex → Sm.St T → Option R) (c : List SStow × Int × Int × List Int × SStow) (x : Bool × Int) (J : (Bool × Int) → Option R) : Option R :=
  spec_Shifts_L15 n (fun (y3 : Bool) => K (.exit 4) (stOf (T := T) [0, 1, 6, 8, 9, 10] [3000000, 72] [.one (.arr 155), .one (.int .i64), .one (.own 3000000 3 false), .one (.int .i64), .one (.ptr 72 0 0), .one (.bool)] [.arr 3 false, .var [.str, .int .i64, .int .i64, .bool, .int .i64, .int .i64, .int .i64, .int .i64, .int .i64]] (c.1, c.2.1, (), c.2.2.1, (), y3, ()) (c.2.2.2.1, (c.2.2.2.2.Box.Name, c.2.2.2.2.Box.Weight, c.2.2.2.2.Box.Class, c.2.2.2.2.Box.Cold, c.2.2.2.2.Box.From, c.2.2.2.2.Box.To, c.2.2.2.2.Spot.Bay, c.2.2.2.2.Spot.Row, c.2.2.2.2.Spot.Tier, ()), ()))) (fun z0 z1 => J (z0, z1)) c.1 c.2.1 c.2.2.1 x.1 x.2 c.2.2.2.1 c.2.2.2.2
def spec_Shifts_15_sp (n : Nat) : LSpec T := mkSpec T ⟨[((.reg 6), 3000000, 3)], [0, 1, 6, 8, 9, 10, 11], [3000000, 72]⟩ spec_Shifts_15_sv spec_Shifts_15_so (List SStow × Int × Int × List Int × SStow) (Bool × Int) spec_Shifts_15_emb spec_Shifts_15_prj (spec_Shifts_15_b n)
noncomputable def spec_Shifts_15_c : Code := ((loopCodes spec_Shifts_code)[2]?).getD .skip
def spec_Shifts_ann : Ann := fun id => bif Nat.beq id 3000005 then some ⟨[((.reg 6), 3000000, 3)], [0, 1, 6], [3000000]⟩ else bif Nat.beq id 2000005 then some ⟨[((.reg 4), 3000001, 3)], [4, 5], [3000001]⟩ else bif Nat.beq id 5000010 then some ⟨[((.reg 6), 3000000, 3)], [6], [3000000]⟩ else bif Nat.beq id 7000015 then some ⟨[((.reg 6), 3000000, 3)], [0, 1, 6, 8, 9, 10], [3000000, 72]⟩ else none
def spec_Shifts_Ls (n : Nat) : Nat → Option (LSpec T) := fun id => bif Nat.beq id 5 then some (spec_Shifts_5_sp n) else bif Nat.beq id 10 then some (spec_Shifts_10_sp n) else bif Nat.beq id 15 then some (spec_Shifts_15_sp n) else none
theorem spec_Shifts_5_le (n : Nat) : LoopEq (T := T) (Phi n 9) (spec_Shifts_Ls n) spec_Shifts_ann n spec_Shifts_5_c (spec_Shifts_5_sp n) := ⟨mkSpec_dec (fun y => rfl), fun c x => by kernel_rfl, fun K J c x => by kernel_rfl⟩
theorem spec_Shifts_10_le (n : Nat) : LoopEq (T := T) (Phi n 9) (spec_Shifts_Ls n) spec_Shifts_ann n spec_Shifts_10_c (spec_Shifts_10_sp n) := ⟨mkSpec_dec (fun y => rfl), fun c x => by kernel_rfl, fun K J c x => by kernel_rfl⟩
theorem spec_Shifts_15_le (n : Nat) : LoopEq (T := T) (Phi n 9) (spec_Shifts_Ls n) spec_Shifts_ann n spec_Shifts_15_c (spec_Shifts_15_sp n) := ⟨mkSpec_dec (fun y => rfl), fun c x => by kernel_rfl, fun K J c x => by kernel_rfl⟩
theorem spec_Shifts_tie (n : Nat) (list0 : List SStow) (port1 : Int) : evF (T := T) (Phi n 9) (spec_Shifts_Ls n) spec_Shifts_ann n Try.f16 (sg 16) [vA T 27 list0, vA T 3 port1] spec_Shifts_dec = spec_Shifts n list0 port1 := by kernel_rfl
theorem spec_Shifts_lo (n : Nat) : LoopsOk (T := T) (Phi n 9) (spec_Shifts_Ls n) spec_Shifts_ann n spec_Shifts_code := loopsOk_all (cs := [spec_Shifts_5_c, spec_Shifts_10_c, spec_Shifts_15_c]) (by kernel_rfl) ⟨⟨_, by kernel_rfl, spec_Shifts_5_le n⟩, ⟨_, by kernel_rfl, spec_Shifts_10_le n⟩, ⟨_, by kernel_rfl, spec_Shifts_15_le n⟩, trivial⟩
theorem spec_Shifts_ok (n : Nat) : EntOk Try.prog (ents n) (spec_Shifts_ent n) := by
  intro hs ar y hg h
  have h : spec_Shifts_D n ar = some y := h
  unfold spec_Shifts_D at h
  split at h
  · obtain ⟨list0, h0, h⟩ := Option.bind_eq_some_iff.1 h
    obtain ⟨port1, h1, h⟩ := Option.bind_eq_some_iff.1 h
    rw [argV_eq ok h0, argV_eq ok h1]
    exact call_of (phiE_nat _ _) hs ok mixed Try.func16 (c := spec_Shifts_code) (by kernel_rfl) (spec_Shifts_lo n) (by kernel_rfl) (by kernel_rfl) (by kernel_rfl) spec_Shifts_de ((spec_Shifts_tie n list0 port1).trans h)
  · cases h
noncomputable def impl_in_code : Code := match Try.f113.body with | some c => c | none => .skip
def impl_in_ann : Ann := fun id => none
def impl_in_Ls (n : Nat) : Nat → Option (LSpec T) := fun id => none
theorem impl_in_tie (n : Nat) (n0 : Int) (least1 : Int) (most2 : Int) : evF (T := T) (Phi n 10) (impl_in_Ls n) impl_in_ann n Try.f113 (sg 113) [vA T 3 n0, vA T 3 least1, vA T 3 most2] impl_in_dec = impl_in n n0 least1 most2 := by kernel_rfl
theorem impl_in_lo (n : Nat) : LoopsOk (T := T) (Phi n 10) (impl_in_Ls n) impl_in_ann n impl_in_code := loopsOk_all (cs := []) (by kernel_rfl) trivial
theorem impl_in_ok (n : Nat) : EntOk Try.prog (ents n) (impl_in_ent n) := by
  intro hs ar y hg h
  have h : impl_in_D n ar = some y := h
  unfold impl_in_D at h
  split at h
  · obtain ⟨n0, h0, h⟩ := Option.bind_eq_some_iff.1 h
    obtain ⟨least1, h1, h⟩ := Option.bind_eq_some_iff.1 h
    obtain ⟨most2, h2, h⟩ := Option.bind_eq_some_iff.1 h
    rw [argV_eq ok h0, argV_eq ok h1, argV_eq ok h2]
    exact call_of (phiE_nat _ _) hs ok mixed Try.func113 (c := impl_in_code) (by kernel_rfl) (impl_in_lo n) (by kernel_rfl) (by kernel_rfl) (by kernel_rfl) impl_in_de ((impl_in_tie n n0 least1 most2).trans h)
  · cases h
noncomputable def impl_portOk_code : Code := match Try.f104.body with | some c => c | none => .skip
def impl_portOk_ann : Ann := fun id => none
def impl_portOk_Ls (n : Nat) : Nat → Option (LSpec T) := fun id => none
theorem impl_portOk_tie (n : Nat) (n0 : Int) : evF (T := T) (Phi n 11) (impl_portOk_Ls n) impl_portOk_ann n Try.f104 (sg 104) [vA T 3 n0] impl_portOk_dec = impl_portOk n n0 := by kernel_rfl
theorem impl_portOk_lo (n : Nat) : LoopsOk (T := T) (Phi n 11) (impl_portOk_Ls n) impl_portOk_ann n impl_portOk_code := loopsOk_all (cs := []) (by kernel_rfl) trivial
theorem impl_portOk_ok (n : Nat) : EntOk Try.prog (ents n) (impl_portOk_ent n) := by
  intro hs ar y hg h
  have h : impl_portOk_D n ar = some y := h
  unfold impl_portOk_D at h
  split at h
  · obtain ⟨n0, h0, h⟩ := Option.bind_eq_some_iff.1 h
    rw [argV_eq ok h0]
    exact call_of (phiE_nat _ _) hs ok mixed Try.func104 (c := impl_portOk_code) (by kernel_rfl) (impl_portOk_lo n) (by kernel_rfl) (by kernel_rfl) (by kernel_rfl) impl_portOk_de ((impl_portOk_tie n n0).trans h)
  · cases h
noncomputable def impl_over_code : Code := match Try.f105.body with | some c => c | none => .skip
def impl_over_ann : Ann := fun id => none
def impl_over_Ls (n : Nat) : Nat → Option (LSpec T) := fun id => none
theorem impl_over_tie (n : Nat) (a0 : SSpot) (b1 : SSpot) : evF (T := T) (Phi n 12) (impl_over_Ls n) impl_over_ann n Try.f105 (sg 105) [vA T 153 a0, vA T 153 b1] impl_over_dec = impl_over n a0 b1 := by kernel_rfl
theorem impl_over_lo (n : Nat) : LoopsOk (T := T) (Phi n 12) (impl_over_Ls n) impl_over_ann n impl_over_code := loopsOk_all (cs := []) (by kernel_rfl) trivial
theorem impl_over_ok (n : Nat) : EntOk Try.prog (ents n) (impl_over_ent n) := by
  intro hs ar y hg h
  have h : impl_over_D n ar = some y := h
  unfold impl_over_D at h
  split at h
  · obtain ⟨a0, h0, h⟩ := Option.bind_eq_some_iff.1 h
    obtain ⟨b1, h1, h⟩ := Option.bind_eq_some_iff.1 h
    rw [argV_eq ok h0, argV_eq ok h1]
    exact call_of (phiE_nat _ _) hs ok mixed Try.func105 (c := impl_over_code) (by kernel_rfl) (impl_over_lo n) (by kernel_rfl) (by kernel_rfl) (by kernel_rfl) impl_over_de ((impl_over_tie n a0 b1).trans h)
  · cases h
noncomputable def impl_own_int_code : Code := match Try.f106.body with | some c => c | none => .skip
def impl_own_int_ann : Ann := fun id => none
def impl_own_int_Ls (n : Nat) : Nat → Option (LSpec T) := fun id => none
theorem impl_own_int_tie (n : Nat) (l0 : List Int) : evF (T := T) (Phi n 13) (impl_own_int_Ls n) impl_own_int_ann n Try.f106 (sg 106) [vA T 24 l0] impl_own_int_dec = impl_own_int n l0 := by kernel_rfl
theorem impl_own_int_lo (n : Nat) : LoopsOk (T := T) (Phi n 13) (impl_own_int_Ls n) impl_own_int_ann n impl_own_int_code := loopsOk_all (cs := []) (by kernel_rfl) trivial
theorem impl_own_int_ok (n : Nat) : EntOk Try.prog (ents n) (impl_own_int_ent n) := by
  intro hs ar y hg h
  have h : impl_own_int_D n ar = some y := h
  unfold impl_own_int_D at h
  split at h
  · obtain ⟨l0, h0, h⟩ := Option.bind_eq_some_iff.1 h
    rw [argV_eq ok h0]
    exact call_of (phiE_nat _ _) hs ok mixed Try.func106 (c := impl_own_int_code) (by kernel_rfl) (impl_own_int_lo n) (by kernel_rfl) (by kernel_rfl) (by kernel_rfl) impl_own_int_de ((impl_own_int_tie n l0).trans h)
  · cases h
noncomputable def impl_Shifts_code : Code := match Try.f18.body with | some c => c | none => .skip
def impl_Shifts_5_sv : List Sv := [.one (.arr 155), .one (.int .i64), .one (.own 3000000 3 false), .one (.arr 155), .one (.int .i64), .one (.int .i64)]
def impl_Shifts_5_so : List So := [.arr 3 false]
def impl_Shifts_5_emb (c : List SStow × Int × List SStow × Int) (x : Int × List Int) : EVs T impl_Shifts_5_sv × EOs T impl_Shifts_5_so := ((c.1, c.2.1, (), c.2.2.1, c.2.2.2, x.1, ()), (x.2, ()))
def impl_Shifts_5_prj (y : EVs T impl_Shifts_5_sv × EOs T impl_Shifts_5_so) : (List SStow × Int × List SStow × Int) × (Int × List Int) := ((y.1.1, y.1.2.1, y.1.2.2.2.1, y.1.2.2.2.2.1), (y.1.2.2.2.2.2.1, y.2.1))
def impl_Shifts_5_b (n : Nat) {R : Type} (K : Ex → Sm.St T → Option R) (c : List SStow × Int × List SStow × Int) (x : Int × List Int) (J : (Int × List Int) → Option R) : Option R :=
  impl_Shifts_L5 n (fun (y0 : List Int) => K (.exit 0) (stOf (T := T) [6] [3000000] [.one (.own 3000000 3 false)] [.arr 3 false] ((), ()) (y0, ()))) (fun (y0 : Bool) (y1 : List Int) => K .ret (stOf (T := T) [4, 5] [3000001] [.one (.own 3000001 3 false), .one (.bool)] [.arr 3 false] ((), y0, ()) (y1, ()))) (fun z0 z1 => J (z0, z1)) c.1 c.2.1 c.2.2.1 c.2.2.2 x.1 x.2
def impl_Shifts_5_sp (n : Nat) : LSpec T := mkSpec T ⟨[((.reg 6), 3000000, 3)], [0, 1, 6, 20, 21, 22], [3000000]⟩ impl_Shifts_5_sv impl_Shifts_5_so (List SStow × Int × List SStow × Int) (Int × List Int) impl_Shifts_5_emb impl_Shifts_5_prj (impl_Shifts_5_b n)
noncomputable def impl_Shifts_5_c : Code := ((loopCodes impl_Shifts_code)[0]?).getD .skip
def impl_Shifts_9_sv : List Sv := [.one (.arr 155), .one (.int .i64), .one (.own 3000000 3 false), .one (.int .i64), .one (.ptr 64 0 0), .one (.bool), .one (.arr 155), .one (.int .i64), .one (.int .i64), .one (.arr 155), .one (.int .i64), .one (.int .i64)]
def impl_Shifts_9_so : List So := [.arr 3 false, .var [.str, .int .i64, .int .i64, .bool, .int .i64, .int .i64, .int .i64, .int .i64, .int .i64]]
def impl_Shifts_9_emb (c : List SStow × Int × Int × List SStow × Int × Int × List SStow × Int × List Int × SStow) (x : Bool × Int) : EVs T impl_Shifts_9_sv × EOs T impl_Shifts_9_so := ((c.1, c.2.1, (), c.2.2.1, (), x.1, c.2.2.2.1, c.2.2.2.2.1, c.2.2.2.2.2.1, c.2.2.2.2.2.2.1, c.2.2.2.2.2.2.2.1, x.2, ()), (c.2.2.2.2.2.2.2.2.1, (c.2.2.2.2.2.2.2.2.2.Box.Name, c.2.2.2.2.2.2.2.2.2.Box.Weight, c.2.2.2.2.2.2.2.2.2.Box.Class, c.2.2.2.2.2.2.2.2.2.Box.Cold, c.2.2.2.2.2.2.2.2.2.Box.From, c.2.2.2.2.2.2.2.2.2.Box.To, c.2.2.2.2.2.2.2.2.2.Spot.Bay, c.2.2.2.2.2.2.2.2.2.Spot.Row, c.2.2.2.2.2.2.2.2.2.Spot.Tier, ()), ()))
def impl_Shifts_9_prj (y : EVs T impl_Shifts_9_sv × EOs T impl_Shifts_9_so) : (List SStow × Int × Int × List SStow × Int × Int × List SStow × Int × List Int × SStow) × (Bool × Int) := ((y.1.1, y.1.2.1, y.1.2.2.2.1, y.1.2.2.2.2.2.2.1, y.1.2.2.2.2.2.2.2.1, y.1.2.2.2.2.2.2.2.2.1, y.1.2.2.2.2.2.2.2.2.2.1, y.1.2.2.2.2.2.2.2.2.2.2.1, y.2.1, ((⟨(⟨y.2.2.1.1, y.2.2.1.2.1, y.2.2.1.2.2.1, y.2.2.1.2.2.2.1, y.2.2.1.2.2.2.2.1, y.2.2.1.2.2.2.2.2.1⟩ : SBox), (⟨y.2.2.1.2.2.2.2.2.2.1, y.2.2.1.2.2.2.2.2.2.2.1, y.2.2.1.2.2.2.2.2.2.2.2.1⟩ : SSpot)⟩ : SStow) : SStow)), (y.1.2.2.2.2.2.1, y.1.2.2.2.2.2.2.2.2.2.2.2.1))
def impl_Shifts_9_b (n : Nat) {R : Type} (K : Ex → Sm.St T → Option R) (c : List SStow × Int × Int × List SStow × Int × Int × List SStow × Int × List Int × SStow) (x : Bool × Int) (J : (Bool × Int) → Option R) : Option R :=
  impl_Shifts_L9 n (fun (y3 : Bool) => K (.exit 2) (stOf (T := T) [0, 1, 6, 7, 9, 20, 21, 22] [3000000] [.one (.arr 155), .one (.int .i64), .one (.own 3000000 3 false), .one (.int .i64), .one (.bool), .one (.arr 155), .one (.int .i64), .one (.int .i64)] [.arr 3 false] (c.1, c.2.1, (), c.2.2.1, y3, c.2.2.2.1, c.2.2.2.2.1, c.2.2.2.2.2.1, ()) (c.2.2.2.2.2.2.2.2.1, ()))) (fun (y0 : Bool) (y1 : List Int) => K .ret (stOf (T := T) [4, 5] [3000001] [.one (.own 3000001 3 false), .one (.bool)] [.arr 3 false] ((), y0, ()) (y1, ()))) (fun z0 z1 => J (z0, z1)) c.1 c.2.1 c.2.2.1 x.1 c.2.2.2.1 c.2.2.2.2.1 c.2.2.2.2.2.1 c.2.2.2.2.2.2.1 c.2.2.2.2.2.2.2.1 x.2 c.2.2.2.2.2.2.2.2.1 c.2.2.2.2.2.2.2.2.2
def impl_Shifts_9_sp (n : Nat) : LSpec T := mkSpec T ⟨[((.reg 6), 3000000, 3)], [0, 1, 6, 7, 8, 9, 20, 21, 22, 27, 28, 29], [3000000, 64]⟩ impl_Shifts_9_sv impl_Shifts_9_so (List SStow × Int × Int × List SStow × Int × Int × List SStow × Int × List Int × SStow) (Bool × Int) impl_Shifts_9_emb impl_Shifts_9_prj (impl_Shifts_9_b n)
noncomputable def impl_Shifts_9_c : Code := ((loopCodes impl_Shifts_code)[1]?).getD .skip
def impl_Shifts_ann : Ann := fun id => bif Nat.beq id 3000005 then some ⟨[((.reg 6), 3000000, 3)], [6], [3000000]⟩ else bif Nat.beq id 2000005 then some ⟨[((.reg 4), 3000001, 3)], [4, 5], [3000001]⟩ else bif Nat.beq id 5000009 then some ⟨[((.reg 6), 3000000, 3)], [0, 1, 6, 7, 9, 20, 21, 22], [3000000]⟩ else bif Nat.beq id 2000009 then some ⟨[((.reg 4), 3000001, 3)], [4, 5], [3000001]⟩ else none
def impl_Shifts_Ls (n : Nat) : Nat → Option (LSpec T) := fun id => bif Nat.beq id 5 then some (impl_Shifts_5_sp n) else bif Nat.beq id 9 then some (impl_Shifts_9_sp n) else none
theorem impl_Shifts_5_le (n : Nat) : LoopEq (T := T) (Phi n 14) (impl_Shifts_Ls n) impl_Shifts_ann n impl_Shifts_5_c (impl_Shifts_5_sp n) := ⟨mkSpec_dec (fun y => rfl), fun c x => by kernel_rfl, fun K J c x => by kernel_rfl⟩
theorem impl_Shifts_9_le (n : Nat) : LoopEq (T := T) (Phi n 14) (impl_Shifts_Ls n) impl_Shifts_ann n impl_Shifts_9_c (impl_Shifts_9_sp n) := ⟨mkSpec_dec (fun y => rfl), fun c x => by kernel_rfl, fun K J c x => by kernel_rfl⟩
theorem impl_Shifts_tie (n : Nat) (list0 : List SStow) (port1 : Int) : evF (T := T) (Phi n 14) (impl_Shifts_Ls n) impl_Shifts_ann n Try.f18 (sg 18) [vA T 27 list0, vA T 3 port1] impl_Shifts_dec = impl_Shifts n list0 port1 := by kernel_rfl
theorem impl_Shifts_lo (n : Nat) : LoopsOk (T := T) (Phi n 14) (impl_Shifts_Ls n) impl_Shifts_ann n impl_Shifts_code := loopsOk_all (cs := [impl_Shifts_5_c, impl_Shifts_9_c]) (by kernel_rfl) ⟨⟨_, by kernel_rfl, impl_Shifts_5_le n⟩, ⟨_, by kernel_rfl, impl_Shifts_9_le n⟩, trivial⟩
theorem impl_Shifts_ok (n : Nat) : EntOk Try.prog (ents n) (impl_Shifts_ent n) := by
  intro hs ar y hg h
  have h : impl_Shifts_D n ar = some y := h
  unfold impl_Shifts_D at h
  split at h
  · obtain ⟨list0, h0, h⟩ := Option.bind_eq_some_iff.1 h
    obtain ⟨port1, h1, h⟩ := Option.bind_eq_some_iff.1 h
    rw [argV_eq ok h0, argV_eq ok h1]
    exact call_of (phiE_nat _ _) hs ok mixed Try.func18 (c := impl_Shifts_code) (by kernel_rfl) (impl_Shifts_lo n) (by kernel_rfl) (by kernel_rfl) (by kernel_rfl) impl_Shifts_de ((impl_Shifts_tie n list0 port1).trans h)
  · cases h
noncomputable def laws_eqIntS_code : Code := match Try.f19.body with | some c => c | none => .skip
def laws_eqIntS_4_sv : List Sv := [.one (.arr 3), .one (.arr 3), .one (.int .i64)]
def laws_eqIntS_4_so : List So := []
def laws_eqIntS_4_emb (c : List Int × List Int) (x : Int) : EVs T laws_eqIntS_4_sv × EOs T laws_eqIntS_4_so := ((c.1, c.2, x, ()), ())
def laws_eqIntS_4_prj (y : EVs T laws_eqIntS_4_sv × EOs T laws_eqIntS_4_so) : (List Int × List Int) × Int := ((y.1.1, y.1.2.1), (y.1.2.2.1))
def laws_eqIntS_4_b (n : Nat) {R : Type} (K : Ex → Sm.St T → Option R) (c : List Int × List Int) (x : Int) (J : Int → Option R) : Option R :=
  laws_eqIntS_L4 n (K (.exit 0) (stOf (T := T) [] [] [] [] () ())) (fun (y0 : Bool) => K .ret (stOf (T := T) [4] [] [.one (.bool)] [] (y0, ()) ())) J c.1 c.2 x
def laws_eqIntS_4_sp (n : Nat) : LSpec T := mkSpec T ⟨[], [0, 1, 5], []⟩ laws_eqIntS_4_sv laws_eqIntS_4_so (List Int × List Int) (Int) laws_eqIntS_4_emb laws_eqIntS_4_prj (laws_eqIntS_4_b n)
noncomputable def laws_eqIntS_4_c : Code := ((loopCodes laws_eqIntS_code)[0]?).getD .skip
def laws_eqIntS_ann : Ann := fun id => bif Nat.beq id 3000004 then some ⟨[], [], []⟩ else bif Nat.beq id 2000004 then some ⟨[], [4], []⟩ else none
def laws_eqIntS_Ls (n : Nat) : Nat → Option (LSpec T) := fun id => bif Nat.beq id 4 then some (laws_eqIntS_4_sp n) else none
theorem laws_eqIntS_4_le (n : Nat) : LoopEq (T := T) (Phi n 15) (laws_eqIntS_Ls n) laws_eqIntS_ann n laws_eqIntS_4_c (laws_eqIntS_4_sp n) := ⟨mkSpec_dec (fun y => rfl), fun c x => by kernel_rfl, fun K J c x => by kernel_rfl⟩
theorem laws_eqIntS_tie (n : Nat) (a0 : List Int) (b1 : List Int) : evF (T := T) (Phi n 15) (laws_eqIntS_Ls n) laws_eqIntS_ann n Try.f19 (sg 19) [vA T 24 a0, vA T 24 b1] laws_eqIntS_dec = laws_eqIntS n a0 b1 := by kernel_rfl
theorem laws_eqIntS_lo (n : Nat) : LoopsOk (T := T) (Phi n 15) (laws_eqIntS_Ls n) laws_eqIntS_ann n laws_eqIntS_code := loopsOk_all (cs := [laws_eqIntS_4_c]) (by kernel_rfl) ⟨⟨_, by kernel_rfl, laws_eqIntS_4_le n⟩, trivial⟩
theorem laws_eqIntS_ok (n : Nat) : EntOk Try.prog (ents n) (laws_eqIntS_ent n) := by
  intro hs ar y hg h
  have h : laws_eqIntS_D n ar = some y := h
  unfold laws_eqIntS_D at h
  split at h
  · obtain ⟨a0, h0, h⟩ := Option.bind_eq_some_iff.1 h
    obtain ⟨b1, h1, h⟩ := Option.bind_eq_some_iff.1 h
    rw [argV_eq ok h0, argV_eq ok h1]
    exact call_of (phiE_nat _ _) hs ok mixed Try.func19 (c := laws_eqIntS_code) (by kernel_rfl) (laws_eqIntS_lo n) (by kernel_rfl) (by kernel_rfl) (by kernel_rfl) laws_eqIntS_de ((laws_eqIntS_tie n a0 b1).trans h)
  · cases h
noncomputable def laws_eqBox_code : Code := match Try.f210.body with | some c => c | none => .skip
def laws_eqBox_ann : Ann := fun id => none
def laws_eqBox_Ls (n : Nat) : Nat → Option (LSpec T) := fun id => none
theorem laws_eqBox_tie (n : Nat) (a0 : SBox) (b1 : SBox) : evF (T := T) (Phi n 16) (laws_eqBox_Ls n) laws_eqBox_ann n Try.f210 (sg 210) [vA T 152 a0, vA T 152 b1] laws_eqBox_dec = laws_eqBox n a0 b1 := by kernel_rfl
theorem laws_eqBox_lo (n : Nat) : LoopsOk (T := T) (Phi n 16) (laws_eqBox_Ls n) laws_eqBox_ann n laws_eqBox_code := loopsOk_all (cs := []) (by kernel_rfl) trivial
theorem laws_eqBox_ok (n : Nat) : EntOk Try.prog (ents n) (laws_eqBox_ent n) := by
  intro hs ar y hg h
  have h : laws_eqBox_D n ar = some y := h
  unfold laws_eqBox_D at h
  split at h
  · obtain ⟨a0, h0, h⟩ := Option.bind_eq_some_iff.1 h
    obtain ⟨b1, h1, h⟩ := Option.bind_eq_some_iff.1 h
    rw [argV_eq ok h0, argV_eq ok h1]
    exact call_of (phiE_nat _ _) hs ok mixed Try.func210 (c := laws_eqBox_code) (by kernel_rfl) (laws_eqBox_lo n) (by kernel_rfl) (by kernel_rfl) (by kernel_rfl) laws_eqBox_de ((laws_eqBox_tie n a0 b1).trans h)
  · cases h
noncomputable def laws_eqSpot_code : Code := match Try.f211.body with | some c => c | none => .skip
def laws_eqSpot_ann : Ann := fun id => none
def laws_eqSpot_Ls (n : Nat) : Nat → Option (LSpec T) := fun id => none
theorem laws_eqSpot_tie (n : Nat) (a0 : SSpot) (b1 : SSpot) : evF (T := T) (Phi n 17) (laws_eqSpot_Ls n) laws_eqSpot_ann n Try.f211 (sg 211) [vA T 153 a0, vA T 153 b1] laws_eqSpot_dec = laws_eqSpot n a0 b1 := by kernel_rfl
theorem laws_eqSpot_lo (n : Nat) : LoopsOk (T := T) (Phi n 17) (laws_eqSpot_Ls n) laws_eqSpot_ann n laws_eqSpot_code := loopsOk_all (cs := []) (by kernel_rfl) trivial
theorem laws_eqSpot_ok (n : Nat) : EntOk Try.prog (ents n) (laws_eqSpot_ent n) := by
  intro hs ar y hg h
  have h : laws_eqSpot_D n ar = some y := h
  unfold laws_eqSpot_D at h
  split at h
  · obtain ⟨a0, h0, h⟩ := Option.bind_eq_some_iff.1 h
    obtain ⟨b1, h1, h⟩ := Option.bind_eq_some_iff.1 h
    rw [argV_eq ok h0, argV_eq ok h1]
    exact call_of (phiE_nat _ _) hs ok mixed Try.func211 (c := laws_eqSpot_code) (by kernel_rfl) (laws_eqSpot_lo n) (by kernel_rfl) (by kernel_rfl) (by kernel_rfl) laws_eqSpot_de ((laws_eqSpot_tie n a0 b1).trans h)
  · cases h
noncomputable def laws_eqStow_code : Code := match Try.f107.body with | some c => c | none => .skip
def laws_eqStow_ann : Ann := fun id => none
def laws_eqStow_Ls (n : Nat) : Nat → Option (LSpec T) := fun id => none
theorem laws_eqStow_tie (n : Nat) (a0 : SStow) (b1 : SStow) : evF (T := T) (Phi n 18) (laws_eqStow_Ls n) laws_eqStow_ann n Try.f107 (sg 107) [vA T 155 a0, vA T 155 b1] laws_eqStow_dec = laws_eqStow n a0 b1 := by kernel_rfl
theorem laws_eqStow_lo (n : Nat) : LoopsOk (T := T) (Phi n 18) (laws_eqStow_Ls n) laws_eqStow_ann n laws_eqStow_code := loopsOk_all (cs := []) (by kernel_rfl) trivial
theorem laws_eqStow_ok (n : Nat) : EntOk Try.prog (ents n) (laws_eqStow_ent n) := by
  intro hs ar y hg h
  have h : laws_eqStow_D n ar = some y := h
  unfold laws_eqStow_D at h
  split at h
  · obtain ⟨a0, h0, h⟩ := Option.bind_eq_some_iff.1 h
    obtain ⟨b1, h1, h⟩ := Option.bind_eq_some_iff.1 h
    rw [argV_eq ok h0, argV_eq ok h1]
    exact call_of (phiE_nat _ _) hs ok mixed Try.func107 (c := laws_eqStow_code) (by kernel_rfl) (laws_eqStow_lo n) (by kernel_rfl) (by kernel_rfl) (by kernel_rfl) laws_eqStow_de ((laws_eqStow_tie n a0 b1).trans h)
  · cases h
noncomputable def laws_eqStowS_code : Code := match Try.f20.body with | some c => c | none => .skip
def laws_eqStowS_4_sv : List Sv := [.one (.arr 155), .one (.arr 155), .one (.int .i64)]
def laws_eqStowS_4_so : List So := []
def laws_eqStowS_4_emb (c : List SStow × List SStow) (x : Int) : EVs T laws_eqStowS_4_sv × EOs T laws_eqStowS_4_so := ((c.1, c.2, x, ()), ())
def laws_eqStowS_4_prj (y : EVs T laws_eqStowS_4_sv × EOs T laws_eqStowS_4_so) : (List SStow × List SStow) × Int := ((y.1.1, y.1.2.1), (y.1.2.2.1))
def laws_eqStowS_4_b (n : Nat) {R : Type} (K : Ex → Sm.St T → Option R) (c : List SStow × List SStow) (x : Int) (J : Int → Option R) : Option R :=
  laws_eqStowS_L4 n (K (.exit 0) (stOf (T := T) [] [] [] [] () ())) (fun (y0 : Bool) => K .ret (stOf (T := T) [4] [] [.one (.bool)] [] (y0, ()) ())) J c.1 c.2 x
def laws_eqStowS_4_sp (n : Nat) : LSpec T := mkSpec T ⟨[], [0, 1, 5], []⟩ laws_eqStowS_4_sv laws_eqStowS_4_so (List SStow × List SStow) (Int) laws_eqStowS_4_emb laws_eqStowS_4_prj (laws_eqStowS_4_b n)
noncomputable def laws_eqStowS_4_c : Code := ((loopCodes laws_eqStowS_code)[0]?).getD .skip
def laws_eqStowS_ann : Ann := fun id => bif Nat.beq id 3000004 then some ⟨[], [], []⟩ else bif Nat.beq id 2000004 then some ⟨[], [4], []⟩ else none
def laws_eqStowS_Ls (n : Nat) : Nat → Option (LSpec T) := fun id => bif Nat.beq id 4 then some (laws_eqStowS_4_sp n) else none
theorem laws_eqStowS_4_le (n : Nat) : LoopEq (T := T) (Phi n 19) (laws_eqStowS_Ls n) laws_eqStowS_ann n laws_eqStowS_4_c (laws_eqStowS_4_sp n) := ⟨mkSpec_dec (fun y => rfl), fun c x => by kernel_rfl, fun K J c x => by kernel_rfl⟩
theorem laws_eqStowS_tie (n : Nat) (a0 : List SStow) (b1 : List SStow) : evF (T := T) (Phi n 19) (laws_eqStowS_Ls n) laws_eqStowS_ann n Try.f20 (sg 20) [vA T 27 a0, vA T 27 b1] laws_eqStowS_dec = laws_eqStowS n a0 b1 := by kernel_rfl
theorem laws_eqStowS_lo (n : Nat) : LoopsOk (T := T) (Phi n 19) (laws_eqStowS_Ls n) laws_eqStowS_ann n laws_eqStowS_code := loopsOk_all (cs := [laws_eqStowS_4_c]) (by kernel_rfl) ⟨⟨_, by kernel_rfl, laws_eqStowS_4_le n⟩, trivial⟩
theorem laws_eqStowS_ok (n : Nat) : EntOk Try.prog (ents n) (laws_eqStowS_ent n) := by
  intro hs ar y hg h
  have h : laws_eqStowS_D n ar = some y := h
  unfold laws_eqStowS_D at h
  split at h
  · obtain ⟨a0, h0, h⟩ := Option.bind_eq_some_iff.1 h
    obtain ⟨b1, h1, h⟩ := Option.bind_eq_some_iff.1 h
    rw [argV_eq ok h0, argV_eq ok h1]
    exact call_of (phiE_nat _ _) hs ok mixed Try.func20 (c := laws_eqStowS_code) (by kernel_rfl) (laws_eqStowS_lo n) (by kernel_rfl) (by kernel_rfl) (by kernel_rfl) laws_eqStowS_de ((laws_eqStowS_tie n a0 b1).trans h)
  · cases h
noncomputable def laws_markText_code : Code := match Try.f108.body with | some c => c | none => .skip
def laws_markText_4_sv : List Sv := [.one (.int .i64), .one (.str)]
def laws_markText_4_so : List So := []
def laws_markText_4_emb (c : Unit) (x : Int × ByteArray) : EVs T laws_markText_4_sv × EOs T laws_markText_4_so := ((x.1, x.2, ()), ())
def laws_markText_4_prj (y : EVs T laws_markText_4_sv × EOs T laws_markText_4_so) : Unit × (Int × ByteArray) := ((), (y.1.1, y.1.2.1))
def laws_markText_4_b (n : Nat) {R : Type} (K : Ex → Sm.St T → Option R) (c : Unit) (x : Int × ByteArray) (J : (Int × ByteArray) → Option R) : Option R :=
  laws_markText_L4 n (fun (y0 : ByteArray) => K (.exit 0) (stOf (T := T) [3] [] [.one (.str)] [] (y0, ()) ())) (fun z0 z1 => J (z0, z1)) x.1 x.2
def laws_markText_4_sp (n : Nat) : LSpec T := mkSpec T ⟨[], [0, 3], []⟩ laws_markText_4_sv laws_markText_4_so (Unit) (Int × ByteArray) laws_markText_4_emb laws_markText_4_prj (laws_markText_4_b n)
noncomputable def laws_markText_4_c : Code := ((loopCodes laws_markText_code)[0]?).getD .skip
def laws_markText_ann : Ann := fun id => bif Nat.beq id 3000004 then some ⟨[], [3], []⟩ else none
def laws_markText_Ls (n : Nat) : Nat → Option (LSpec T) := fun id => bif Nat.beq id 4 then some (laws_markText_4_sp n) else none
theorem laws_markText_4_le (n : Nat) : LoopEq (T := T) (Phi n 20) (laws_markText_Ls n) laws_markText_ann n laws_markText_4_c (laws_markText_4_sp n) := ⟨mkSpec_dec (fun y => rfl), fun c x => by kernel_rfl, fun K J c x => by kernel_rfl⟩
theorem laws_markText_tie (n : Nat) (k0 : Int) : evF (T := T) (Phi n 20) (laws_markText_Ls n) laws_markText_ann n Try.f108 (sg 108) [vA T 3 k0] laws_markText_dec = laws_markText n k0 := by kernel_rfl
theorem laws_markText_lo (n : Nat) : LoopsOk (T := T) (Phi n 20) (laws_markText_Ls n) laws_markText_ann n laws_markText_code := loopsOk_all (cs := [laws_markText_4_c]) (by kernel_rfl) ⟨⟨_, by kernel_rfl, laws_markText_4_le n⟩, trivial⟩
theorem laws_markText_ok (n : Nat) : EntOk Try.prog (ents n) (laws_markText_ent n) := by
  intro hs ar y hg h
  have h : laws_markText_D n ar = some y := h
  unfold laws_markText_D at h
  split at h
  · obtain ⟨k0, h0, h⟩ := Option.bind_eq_some_iff.1 h
    rw [argV_eq ok h0]
    exact call_of (phiE_nat _ _) hs ok mixed Try.func108 (c := laws_markText_code) (by kernel_rfl) (laws_markText_lo n) (by kernel_rfl) (by kernel_rfl) (by kernel_rfl) laws_markText_de ((laws_markText_tie n k0).trans h)
  · cases h
noncomputable def laws_markStowS_code : Code := match Try.f21.body with | some c => c | none => .skip
def laws_markStowS_2_sv : List Sv := [.one (.own 4503599627370496 155 false), .one (.int .i64), .one (.int .i64)]
def laws_markStowS_2_so : List So := [.arr 155 true]
def laws_markStowS_2_emb (c : Unit) (x : Int × Int × List SStow) : EVs T laws_markStowS_2_sv × EOs T laws_markStowS_2_so := (((), x.1, x.2.1, ()), (x.2.2, ()))
def laws_markStowS_2_prj (y : EVs T laws_markStowS_2_sv × EOs T laws_markStowS_2_so) : Unit × (Int × Int × List SStow) := ((), (y.1.2.1, y.1.2.2.1, y.2.1))
def laws_markStowS_2_b (n : Nat) {R : Type} (K : Ex → Sm.St T → Option R) (c : Unit) (x : Int × Int × List SStow) (J : (Int × Int × List SStow) → Option R) : Option R :=
  laws_markStowS_L2 n (fun (y0 : Int) (y1 : List SStow) => K (.exit 0) (stOf (T := T) [1] [4503599627370496] [.one (.int .i64)] [.arr 155 true] (y0, ()) (y1, ()))) (fun z0 z1 z2 => J (z0, z1, z2)) x.1 x.2.1 x.2.2
def laws_markStowS_2_sp (n : Nat) : LSpec T := mkSpec T ⟨[], [0, 1, 5], [4503599627370496]⟩ laws_markStowS_2_sv laws_markStowS_2_so (Unit) (Int × Int × List SStow) laws_markStowS_2_emb laws_markStowS_2_prj (laws_markStowS_2_b n)
noncomputable def laws_markStowS_2_c : Code := ((loopCodes laws_markStowS_code)[0]?).getD .skip
def laws_markStowS_ann : Ann := fun id => bif Nat.beq id 3000002 then some ⟨[], [1], [4503599627370496]⟩ else none
def laws_markStowS_Ls (n : Nat) : Nat → Option (LSpec T) := fun id => bif Nat.beq id 2 then some (laws_markStowS_2_sp n) else none
theorem laws_markStowS_2_le (n : Nat) : LoopEq (T := T) (Phi n 21) (laws_markStowS_Ls n) laws_markStowS_ann n laws_markStowS_2_c (laws_markStowS_2_sp n) := ⟨mkSpec_dec (fun y => rfl), fun c x => by kernel_rfl, fun K J c x => by kernel_rfl⟩
theorem laws_markStowS_tie (n : Nat) (a0 : List SStow) (k1 : Int) : evF (T := T) (Phi n 21) (laws_markStowS_Ls n) laws_markStowS_ann n Try.f21 (sg 21) [vA T 27 a0, vA T 3 k1] laws_markStowS_dec = laws_markStowS n a0 k1 := by kernel_rfl
theorem laws_markStowS_lo (n : Nat) : LoopsOk (T := T) (Phi n 21) (laws_markStowS_Ls n) laws_markStowS_ann n laws_markStowS_code := loopsOk_all (cs := [laws_markStowS_2_c]) (by kernel_rfl) ⟨⟨_, by kernel_rfl, laws_markStowS_2_le n⟩, trivial⟩
theorem laws_markStowS_ok (n : Nat) : EntOk Try.prog (ents n) (laws_markStowS_ent n) := by
  intro hs ar y hg h
  have h : laws_markStowS_D n ar = some y := h
  unfold laws_markStowS_D at h
  split at h
  · obtain ⟨a0, h0, h⟩ := Option.bind_eq_some_iff.1 h
    obtain ⟨k1, h1, h⟩ := Option.bind_eq_some_iff.1 h
    rw [argV_eq ok h0, argV_eq ok h1]
    exact call_of (phiE_nat _ _) hs ok mixed Try.func21 (c := laws_markStowS_code) (by kernel_rfl) (laws_markStowS_lo n) (by kernel_rfl) (by kernel_rfl) (by kernel_rfl) laws_markStowS_de ((laws_markStowS_tie n a0 k1).trans h)
  · cases h
noncomputable def laws_markIntS_code : Code := match Try.f22.body with | some c => c | none => .skip
def laws_markIntS_2_sv : List Sv := [.one (.own 4503599627370496 3 false), .one (.int .i64), .one (.int .i64)]
def laws_markIntS_2_so : List So := [.arr 3 true]
def laws_markIntS_2_emb (c : Unit) (x : Int × Int × List Int) : EVs T laws_markIntS_2_sv × EOs T laws_markIntS_2_so := (((), x.1, x.2.1, ()), (x.2.2, ()))
def laws_markIntS_2_prj (y : EVs T laws_markIntS_2_sv × EOs T laws_markIntS_2_so) : Unit × (Int × Int × List Int) := ((), (y.1.2.1, y.1.2.2.1, y.2.1))
def laws_markIntS_2_b (n : Nat) {R : Type} (K : Ex → Sm.St T → Option R) (c : Unit) (x : Int × Int × List Int) (J : (Int × Int × List Int) → Option R) : Option R :=
  laws_markIntS_L2 n (fun (y0 : Int) (y1 : List Int) => K (.exit 0) (stOf (T := T) [1] [4503599627370496] [.one (.int .i64)] [.arr 3 true] (y0, ()) (y1, ()))) (fun z0 z1 z2 => J (z0, z1, z2)) x.1 x.2.1 x.2.2
def laws_markIntS_2_sp (n : Nat) : LSpec T := mkSpec T ⟨[], [0, 1, 5], [4503599627370496]⟩ laws_markIntS_2_sv laws_markIntS_2_so (Unit) (Int × Int × List Int) laws_markIntS_2_emb laws_markIntS_2_prj (laws_markIntS_2_b n)
noncomputable def laws_markIntS_2_c : Code := ((loopCodes laws_markIntS_code)[0]?).getD .skip
def laws_markIntS_ann : Ann := fun id => bif Nat.beq id 3000002 then some ⟨[], [1], [4503599627370496]⟩ else none
def laws_markIntS_Ls (n : Nat) : Nat → Option (LSpec T) := fun id => bif Nat.beq id 2 then some (laws_markIntS_2_sp n) else none
theorem laws_markIntS_2_le (n : Nat) : LoopEq (T := T) (Phi n 22) (laws_markIntS_Ls n) laws_markIntS_ann n laws_markIntS_2_c (laws_markIntS_2_sp n) := ⟨mkSpec_dec (fun y => rfl), fun c x => by kernel_rfl, fun K J c x => by kernel_rfl⟩
theorem laws_markIntS_tie (n : Nat) (a0 : List Int) (k1 : Int) : evF (T := T) (Phi n 22) (laws_markIntS_Ls n) laws_markIntS_ann n Try.f22 (sg 22) [vA T 24 a0, vA T 3 k1] laws_markIntS_dec = laws_markIntS n a0 k1 := by kernel_rfl
theorem laws_markIntS_lo (n : Nat) : LoopsOk (T := T) (Phi n 22) (laws_markIntS_Ls n) laws_markIntS_ann n laws_markIntS_code := loopsOk_all (cs := [laws_markIntS_2_c]) (by kernel_rfl) ⟨⟨_, by kernel_rfl, laws_markIntS_2_le n⟩, trivial⟩
theorem laws_markIntS_ok (n : Nat) : EntOk Try.prog (ents n) (laws_markIntS_ent n) := by
  intro hs ar y hg h
  have h : laws_markIntS_D n ar = some y := h
  unfold laws_markIntS_D at h
  split at h
  · obtain ⟨a0, h0, h⟩ := Option.bind_eq_some_iff.1 h
    obtain ⟨k1, h1, h⟩ := Option.bind_eq_some_iff.1 h
    rw [argV_eq ok h0, argV_eq ok h1]
    exact call_of (phiE_nat _ _) hs ok mixed Try.func22 (c := laws_markIntS_code) (by kernel_rfl) (laws_markIntS_lo n) (by kernel_rfl) (by kernel_rfl) (by kernel_rfl) laws_markIntS_de ((laws_markIntS_tie n a0 k1).trans h)
  · cases h
noncomputable def laws_heldIntS_code : Code := match Try.f23.body with | some c => c | none => .skip
def laws_heldIntS_2_sv : List Sv := [.one (.arr 3), .one (.int .i64), .one (.int .i64)]
def laws_heldIntS_2_so : List So := []
def laws_heldIntS_2_emb (c : List Int) (x : Int × Int) : EVs T laws_heldIntS_2_sv × EOs T laws_heldIntS_2_so := ((c, x.1, x.2, ()), ())
def laws_heldIntS_2_prj (y : EVs T laws_heldIntS_2_sv × EOs T laws_heldIntS_2_so) : List Int × (Int × Int) := ((y.1.1), (y.1.2.1, y.1.2.2.1))
def laws_heldIntS_2_b (n : Nat) {R : Type} (K : Ex → Sm.St T → Option R) (c : List Int) (x : Int × Int) (J : (Int × Int) → Option R) : Option R :=
  laws_heldIntS_L2 n (fun (y0 : Int) => K (.exit 0) (stOf (T := T) [1] [] [.one (.int .i64)] [] (y0, ()) ())) (fun (y0 : Int) => K .ret (stOf (T := T) [4] [] [.one (.int .i64)] [] (y0, ()) ())) (fun z0 z1 => J (z0, z1)) c x.1 x.2
def laws_heldIntS_2_sp (n : Nat) : LSpec T := mkSpec T ⟨[], [0, 1, 5], []⟩ laws_heldIntS_2_sv laws_heldIntS_2_so (List Int) (Int × Int) laws_heldIntS_2_emb laws_heldIntS_2_prj (laws_heldIntS_2_b n)
noncomputable def laws_heldIntS_2_c : Code := ((loopCodes laws_heldIntS_code)[0]?).getD .skip
def laws_heldIntS_ann : Ann := fun id => bif Nat.beq id 3000002 then some ⟨[], [1], []⟩ else bif Nat.beq id 2000002 then some ⟨[], [4], []⟩ else none
def laws_heldIntS_Ls (n : Nat) : Nat → Option (LSpec T) := fun id => bif Nat.beq id 2 then some (laws_heldIntS_2_sp n) else none
theorem laws_heldIntS_2_le (n : Nat) : LoopEq (T := T) (Phi n 23) (laws_heldIntS_Ls n) laws_heldIntS_ann n laws_heldIntS_2_c (laws_heldIntS_2_sp n) := ⟨mkSpec_dec (fun y => rfl), fun c x => by kernel_rfl, fun K J c x => by kernel_rfl⟩
theorem laws_heldIntS_tie (n : Nat) (a0 : List Int) (k1 : Int) : evF (T := T) (Phi n 23) (laws_heldIntS_Ls n) laws_heldIntS_ann n Try.f23 (sg 23) [vA T 24 a0, vA T 3 k1] laws_heldIntS_dec = laws_heldIntS n a0 k1 := by kernel_rfl
theorem laws_heldIntS_lo (n : Nat) : LoopsOk (T := T) (Phi n 23) (laws_heldIntS_Ls n) laws_heldIntS_ann n laws_heldIntS_code := loopsOk_all (cs := [laws_heldIntS_2_c]) (by kernel_rfl) ⟨⟨_, by kernel_rfl, laws_heldIntS_2_le n⟩, trivial⟩
theorem laws_heldIntS_ok (n : Nat) : EntOk Try.prog (ents n) (laws_heldIntS_ent n) := by
  intro hs ar y hg h
  have h : laws_heldIntS_D n ar = some y := h
  unfold laws_heldIntS_D at h
  split at h
  · obtain ⟨a0, h0, h⟩ := Option.bind_eq_some_iff.1 h
    obtain ⟨k1, h1, h⟩ := Option.bind_eq_some_iff.1 h
    rw [argV_eq ok h0, argV_eq ok h1]
    exact call_of (phiE_nat _ _) hs ok mixed Try.func23 (c := laws_heldIntS_code) (by kernel_rfl) (laws_heldIntS_lo n) (by kernel_rfl) (by kernel_rfl) (by kernel_rfl) laws_heldIntS_de ((laws_heldIntS_tie n a0 k1).trans h)
  · cases h
noncomputable def laws_FnExactShifts_code : Code := match Try.f3.body with | some c => c | none => .skip
def laws_FnExactShifts_ann : Ann := fun id => none
def laws_FnExactShifts_Ls (n : Nat) : Nat → Option (LSpec T) := fun id => none
theorem laws_FnExactShifts_tie (n : Nat) (aList0 : List SStow) (aPort1 : Int) : evF (T := T) (Phi n 24) (laws_FnExactShifts_Ls n) laws_FnExactShifts_ann n Try.f3 (sg 3) [vA T 22 aList0, vA T 3 aPort1] laws_FnExactShifts_dec = laws_FnExactShifts n aList0 aPort1 := by kernel_rfl
theorem laws_FnExactShifts_lo (n : Nat) : LoopsOk (T := T) (Phi n 24) (laws_FnExactShifts_Ls n) laws_FnExactShifts_ann n laws_FnExactShifts_code := loopsOk_all (cs := []) (by kernel_rfl) trivial
theorem laws_FnExactShifts_ok (n : Nat) : EntOk Try.prog (ents n) (laws_FnExactShifts_ent n) := by
  intro hs ar y hg h
  have h : laws_FnExactShifts_D n ar = some y := h
  unfold laws_FnExactShifts_D at h
  split at h
  · obtain ⟨aList0, h0, h⟩ := Option.bind_eq_some_iff.1 h
    obtain ⟨aPort1, h1, h⟩ := Option.bind_eq_some_iff.1 h
    rw [argV_eq ok h0, argV_eq ok h1]
    exact call_of (phiE_nat _ _) hs ok mixed Try.func3 (c := laws_FnExactShifts_code) (by kernel_rfl) (laws_FnExactShifts_lo n) (by kernel_rfl) (by kernel_rfl) (by kernel_rfl) laws_FnExactShifts_de ((laws_FnExactShifts_tie n aList0 aPort1).trans h)
  · cases h
theorem entsOk (n : Nat) : EntsOk Try.prog (ents n) (ents n) := ⟨laws_szBox_ok n, laws_szStow_ok n, laws_szStowS_ok n, laws_toBox_ok n, laws_toSpot_ok n, laws_toStow_ok n, laws_toStowS_ok n, spec_l1In_ok n, spec_l12At_ok n, spec_Shifts_ok n, impl_in_ok n, impl_portOk_ok n, impl_over_ok n, impl_own_int_ok n, impl_Shifts_ok n, laws_eqIntS_ok n, laws_eqBox_ok n, laws_eqSpot_ok n, laws_eqStow_ok n, laws_eqStowS_ok n, laws_markText_ok n, laws_markStowS_ok n, laws_markIntS_ok n, laws_heldIntS_ok n, laws_FnExactShifts_ok n, trivial⟩
theorem sem (n i : Nat) : SemOk (Phi n i) (CallOk Try.prog T) := phiE_ok (entsOk n) i
end Go.Sm.A3
