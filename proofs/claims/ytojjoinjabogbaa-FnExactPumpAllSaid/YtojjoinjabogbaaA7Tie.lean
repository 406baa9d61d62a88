import Derived.Test.YtojjoinjabogbaaA7Tb
import Derived.KernelRfl
/- Each function's code computes what the plain function computes. -/
set_option linter.unusedSimpArgs false
set_option linter.deprecated false
set_option linter.unusedSectionVars false
set_option linter.unusedVariables false
set_option maxRecDepth 100000
open Go Go.Proofs
noncomputable section
namespace Go.Sm.A7
def laws_szFuelS_dec (res : Res T) : Option Int := match res.rets, res.outs with
  | [a0], [] => (retV (T := T) 3 a0).bind fun r0 => some (r0)
  | _, _ => none
def laws_szFuelS_enc (y : Int) : Res T := ⟨[vR T 3 y], []⟩
theorem laws_szFuelS_de (res : Res T) (y : Int) (h : laws_szFuelS_dec res = some y) : res = laws_szFuelS_enc y := by
  obtain ⟨rets, outs⟩ := res
  unfold laws_szFuelS_dec at h
  dsimp only at h
  split at h
  · obtain ⟨r0, h0, h⟩ := Option.bind_eq_some_iff.1 h
    cases h
    rw [retV_eq ok h0]
    rfl
  · cases h
def laws_szPumpS_dec (res : Res T) : Option Int := match res.rets, res.outs with
  | [a0], [] => (retV (T := T) 3 a0).bind fun r0 => some (r0)
  | _, _ => none
def laws_szPumpS_enc (y : Int) : Res T := ⟨[vR T 3 y], []⟩
theorem laws_szPumpS_de (res : Res T) (y : Int) (h : laws_szPumpS_dec res = some y) : res = laws_szPumpS_enc y := by
  obtain ⟨rets, outs⟩ := res
  unfold laws_szPumpS_dec at h
  dsimp only at h
  split at h
  · obtain ⟨r0, h0, h⟩ := Option.bind_eq_some_iff.1 h
    cases h
    rw [retV_eq ok h0]
    rfl
  · cases h
def laws_toFuel_dec (res : Res T) : Option SFuel := match res.rets, res.outs with
  | [a0], [] => (retV (T := T) 187 a0).bind fun r0 => some (r0)
  | _, _ => none
def laws_toFuel_enc (y : SFuel) : Res T := ⟨[vR T 187 y], []⟩
theorem laws_toFuel_de (res : Res T) (y : SFuel) (h : laws_toFuel_dec res = some y) : res = laws_toFuel_enc y := by
  obtain ⟨rets, outs⟩ := res
  unfold laws_toFuel_dec at h
  dsimp only at h
  split at h
  · obtain ⟨r0, h0, h⟩ := Option.bind_eq_some_iff.1 h
    cases h
    rw [retV_eq ok h0]
    rfl
  · cases h
def laws_toFuelS_dec (res : Res T) : Option (List SFuel) := match res.rets, res.outs with
  | [a0], [] => (retV (T := T) 71 a0).bind fun r0 => some (r0)
  | _, _ => none
def laws_toFuelS_enc (y : List SFuel) : Res T := ⟨[vR T 71 y], []⟩
theorem laws_toFuelS_de (res : Res T) (y : List SFuel) (h : laws_toFuelS_dec res = some y) : res = laws_toFuelS_enc y := by
  obtain ⟨rets, outs⟩ := res
  unfold laws_toFuelS_dec at h
  dsimp only at h
  split at h
  · obtain ⟨r0, h0, h⟩ := Option.bind_eq_some_iff.1 h
    cases h
    rw [retV_eq ok h0]
    rfl
  · cases h
def laws_toPump_dec (res : Res T) : Option SPump := match res.rets, res.outs with
  | [a0], [] => (retV (T := T) 185 a0).bind fun r0 => some (r0)
  | _, _ => none
def laws_toPump_enc (y : SPump) : Res T := ⟨[vR T 185 y], []⟩
theorem laws_toPump_de (res : Res T) (y : SPump) (h : laws_toPump_dec res = some y) : res = laws_toPump_enc y := by
  obtain ⟨rets, outs⟩ := res
  unfold laws_toPump_dec at h
  dsimp only at h
  split at h
  · obtain ⟨r0, h0, h⟩ := Option.bind_eq_some_iff.1 h
    cases h
    rw [retV_eq ok h0]
    rfl
  · cases h
def laws_toPumpS_dec (res : Res T) : Option (List SPump) := match res.rets, res.outs with
  | [a0], [] => (retV (T := T) 75 a0).bind fun r0 => some (r0)
  | _, _ => none
def laws_toPumpS_enc (y : List SPump) : Res T := ⟨[vR T 75 y], []⟩
theorem laws_toPumpS_de (res : Res T) (y : List SPump) (h : laws_toPumpS_dec res = some y) : res = laws_toPumpS_enc y := by
  obtain ⟨rets, outs⟩ := res
  unfold laws_toPumpS_dec at h
  dsimp only at h
  split at h
  · obtain ⟨r0, h0, h⟩ := Option.bind_eq_some_iff.1 h
    cases h
    rw [retV_eq ok h0]
    rfl
  · cases h
def spec_l1In_dec (res : Res T) : Option Bool := match res.rets, res.outs with
  | [a0], [] => (retV (T := T) 4 a0).bind fun r0 => some (r0)
  | _, _ => none
def spec_l1In_enc (y : Bool) : Res T := ⟨[vR T 4 y], []⟩
theorem spec_l1In_de (res : Res T) (y : Bool) (h : spec_l1In_dec res = some y) : res = spec_l1In_enc y := by
  obtain ⟨rets, outs⟩ := res
  unfold spec_l1In_dec at h
  dsimp only at h
  split at h
  · obtain ⟨r0, h0, h⟩ := Option.bind_eq_some_iff.1 h
    cases h
    rw [retV_eq ok h0]
    rfl
  · cases h
def spec_l10Fuels_dec (res : Res T) : Option Bool := match res.rets, res.outs with
  | [a0], [] => (retV (T := T) 4 a0).bind fun r0 => some (r0)
  | _, _ => none
def spec_l10Fuels_enc (y : Bool) : Res T := ⟨[vR T 4 y], []⟩
theorem spec_l10Fuels_de (res : Res T) (y : Bool) (h : spec_l10Fuels_dec res = some y) : res = spec_l10Fuels_enc y := by
  obtain ⟨rets, outs⟩ := res
  unfold spec_l10Fuels_dec at h
  dsimp only at h
  split at h
  · obtain ⟨r0, h0, h⟩ := Option.bind_eq_some_iff.1 h
    cases h
    rw [retV_eq ok h0]
    rfl
  · cases h
def spec_Pumped_dec (res : Res T) : Option (List SFuel × Int) := match res.rets, res.outs with
  | [a0, a1], [] => (retV (T := T) 71 a0).bind fun r0 => (retV (T := T) 3 a1).bind fun r1 => some (r0, r1)
  | _, _ => none
def spec_Pumped_enc (y : List SFuel × Int) : Res T := ⟨[vR T 71 y.1, vR T 3 y.2], []⟩
theorem spec_Pumped_de (res : Res T) (y : List SFuel × Int) (h : spec_Pumped_dec res = some y) : res = spec_Pumped_enc y := by
  obtain ⟨rets, outs⟩ := res
  unfold spec_Pumped_dec at h
  dsimp only at h
  split at h
  · obtain ⟨r0, h0, h⟩ := Option.bind_eq_some_iff.1 h
    obtain ⟨r1, h1, h⟩ := Option.bind_eq_some_iff.1 h
    cases h
    rw [retV_eq ok h0, retV_eq ok h1]
    rfl
  · cases h
def spec_PumpAll_dec (res : Res T) : Option (List SFuel × List Int × Int × Int) := match res.rets, res.outs with
  | [a0, a1, a2, a3], [] => (retV (T := T) 71 a0).bind fun r0 => (retV (T := T) 24 a1).bind fun r1 => (retV (T := T) 3 a2).bind fun r2 => (retV (T := T) 3 a3).bind fun r3 => some (r0, r1, r2, r3)
  | _, _ => none
def spec_PumpAll_enc (y : List SFuel × List Int × Int × Int) : Res T := ⟨[vR T 71 y.1, vR T 24 y.2.1, vR T 3 y.2.2.1, vR T 3 y.2.2.2], []⟩
theorem spec_PumpAll_de (res : Res T) (y : List SFuel × List Int × Int × Int) (h : spec_PumpAll_dec res = some y) : res = spec_PumpAll_enc y := by
  obtain ⟨rets, outs⟩ := res
  unfold spec_PumpAll_dec at h
  dsimp only at h
  split at h
  · obtain ⟨r0, h0, h⟩ := Option.bind_eq_some_iff.1 h
    obtain ⟨r1, h1, h⟩ := Option.bind_eq_some_iff.1 h
    obtain ⟨r2, h2, h⟩ := Option.bind_eq_some_iff.1 h
    obtain ⟨r3, h3, h⟩ := Option.bind_eq_some_iff.1 h
    cases h
    rw [retV_eq ok h0, retV_eq ok h1, retV_eq ok h2, retV_eq ok h3]
    rfl
  · cases h
def impl_own_impl_Fuel_dec (res : Res T) : Option (List SFuel) := match res.rets, res.outs with
  | [a0], [] => (retV (T := T) 71 a0).bind fun r0 => some (r0)
  | _, _ => none
def impl_own_impl_Fuel_enc (y : List SFuel) : Res T := ⟨[vR T 71 y], []⟩
theorem impl_own_impl_Fuel_de (res : Res T) (y : List SFuel) (h : impl_own_impl_Fuel_dec res = some y) : res = impl_own_impl_Fuel_enc y := by
  obtain ⟨rets, outs⟩ := res
  unfold impl_own_impl_Fuel_dec at h
  dsimp only at h
  split at h
  · obtain ⟨r0, h0, h⟩ := Option.bind_eq_some_iff.1 h
    cases h
    rw [retV_eq ok h0]
    rfl
  · cases h
def impl_in_dec (res : Res T) : Option Bool := match res.rets, res.outs with
  | [a0], [] => (retV (T := T) 4 a0).bind fun r0 => some (r0)
  | _, _ => none
def impl_in_enc (y : Bool) : Res T := ⟨[vR T 4 y], []⟩
theorem impl_in_de (res : Res T) (y : Bool) (h : impl_in_dec res = some y) : res = impl_in_enc y := by
  obtain ⟨rets, outs⟩ := res
  unfold impl_in_dec at h
  dsimp only at h
  split at h
  · obtain ⟨r0, h0, h⟩ := Option.bind_eq_some_iff.1 h
    cases h
    rw [retV_eq ok h0]
    rfl
  · cases h
def impl_tanksRight_1_dec (res : Res T) : Option Bool := match res.rets, res.outs with
  | [a0], [] => (retV (T := T) 4 a0).bind fun r0 => some (r0)
  | _, _ => none
def impl_tanksRight_1_enc (y : Bool) : Res T := ⟨[vR T 4 y], []⟩
theorem impl_tanksRight_1_de (res : Res T) (y : Bool) (h : impl_tanksRight_1_dec res = some y) : res = impl_tanksRight_1_enc y := by
  obtain ⟨rets, outs⟩ := res
  unfold impl_tanksRight_1_dec at h
  dsimp only at h
  split at h
  · obtain ⟨r0, h0, h⟩ := Option.bind_eq_some_iff.1 h
    cases h
    rw [retV_eq ok h0]
    rfl
  · cases h
def slices_IndexFunc_impl_Fuel_impl_Fuel__impl_tanksRight_1_dec (res : Res T) : Option Int := match res.rets, res.outs with
  | [a0], [] => (retV (T := T) 3 a0).bind fun r0 => some (r0)
  | _, _ => none
def slices_IndexFunc_impl_Fuel_impl_Fuel__impl_tanksRight_1_enc (y : Int) : Res T := ⟨[vR T 3 y], []⟩
theorem slices_IndexFunc_impl_Fuel_impl_Fuel__impl_tanksRight_1_de (res : Res T) (y : Int) (h : slices_IndexFunc_impl_Fuel_impl_Fuel__impl_tanksRight_1_dec res = some y) : res = slices_IndexFunc_impl_Fuel_impl_Fuel__impl_tanksRight_1_enc y := by
  obtain ⟨rets, outs⟩ := res
  unfold slices_IndexFunc_impl_Fuel_impl_Fuel__impl_tanksRight_1_dec at h
  dsimp only at h
  split at h
  · obtain ⟨r0, h0, h⟩ := Option.bind_eq_some_iff.1 h
    cases h
    rw [retV_eq ok h0]
    rfl
  · cases h
def slices_ContainsFunc_impl_Fuel_impl_Fuel__impl_tanksRight_1_dec (res : Res T) : Option Bool := match res.rets, res.outs with
  | [a0], [] => (retV (T := T) 4 a0).bind fun r0 => some (r0)
  | _, _ => none
def slices_ContainsFunc_impl_Fuel_impl_Fuel__impl_tanksRight_1_enc (y : Bool) : Res T := ⟨[vR T 4 y], []⟩
theorem slices_ContainsFunc_impl_Fuel_impl_Fuel__impl_tanksRight_1_de (res : Res T) (y : Bool) (h : slices_ContainsFunc_impl_Fuel_impl_Fuel__impl_tanksRight_1_dec res = some y) : res = slices_ContainsFunc_impl_Fuel_impl_Fuel__impl_tanksRight_1_enc y := by
  obtain ⟨rets, outs⟩ := res
  unfold slices_ContainsFunc_impl_Fuel_impl_Fuel__impl_tanksRight_1_dec at h
  dsimp only at h
  split at h
  · obtain ⟨r0, h0, h⟩ := Option.bind_eq_some_iff.1 h
    cases h
    rw [retV_eq ok h0]
    rfl
  · cases h
def impl_tanksRight_dec (res : Res T) : Option Bool := match res.rets, res.outs with
  | [a0], [] => (retV (T := T) 4 a0).bind fun r0 => some (r0)
  | _, _ => none
def impl_tanksRight_enc (y : Bool) : Res T := ⟨[vR T 4 y], []⟩
theorem impl_tanksRight_de (res : Res T) (y : Bool) (h : impl_tanksRight_dec res = some y) : res = impl_tanksRight_enc y := by
  obtain ⟨rets, outs⟩ := res
  unfold impl_tanksRight_dec at h
  dsimp only at h
  split at h
  · obtain ⟨r0, h0, h⟩ := Option.bind_eq_some_iff.1 h
    cases h
    rw [retV_eq ok h0]
    rfl
  · cases h
def impl_Pumped_dec (res : Res T) : Option (List SFuel × Int) := match res.rets, res.outs with
  | [a0, a1], [] => (retV (T := T) 71 a0).bind fun r0 => (retV (T := T) 3 a1).bind fun r1 => some (r0, r1)
  | _, _ => none
def impl_Pumped_enc (y : List SFuel × Int) : Res T := ⟨[vR T 71 y.1, vR T 3 y.2], []⟩
theorem impl_Pumped_de (res : Res T) (y : List SFuel × Int) (h : impl_Pumped_dec res = some y) : res = impl_Pumped_enc y := by
  obtain ⟨rets, outs⟩ := res
  unfold impl_Pumped_dec at h
  dsimp only at h
  split at h
  · obtain ⟨r0, h0, h⟩ := Option.bind_eq_some_iff.1 h
    obtain ⟨r1, h1, h⟩ := Option.bind_eq_some_iff.1 h
    cases h
    rw [retV_eq ok h0, retV_eq ok h1]
    rfl
  · cases h
def impl_own_int_dec (res : Res T) : Option (List Int) := match res.rets, res.outs with
  | [a0], [] => (retV (T := T) 24 a0).bind fun r0 => some (r0)
  | _, _ => none
def impl_own_int_enc (y : List Int) : Res T := ⟨[vR T 24 y], []⟩
theorem impl_own_int_de (res : Res T) (y : List Int) (h : impl_own_int_dec res = some y) : res = impl_own_int_enc y := by
  obtain ⟨rets, outs⟩ := res
  unfold impl_own_int_dec at h
  dsimp only at h
  split at h
  · obtain ⟨r0, h0, h⟩ := Option.bind_eq_some_iff.1 h
    cases h
    rw [retV_eq ok h0]
    rfl
  · cases h
def impl_PumpAll_dec (res : Res T) : Option (List SFuel × List Int × Int × Int) := match res.rets, res.outs with
  | [a0, a1, a2, a3], [] => (retV (T := T) 71 a0).bind fun r0 => (retV (T := T) 24 a1).bind fun r1 => (retV (T := T) 3 a2).bind fun r2 => (retV (T := T) 3 a3).bind fun r3 => some (r0, r1, r2, r3)
  | _, _ => none
def impl_PumpAll_enc (y : List SFuel × List Int × Int × Int) : Res T := ⟨[vR T 71 y.1, vR T 24 y.2.1, vR T 3 y.2.2.1, vR T 3 y.2.2.2], []⟩
theorem impl_PumpAll_de (res : Res T) (y : List SFuel × List Int × Int × Int) (h : impl_PumpAll_dec res = some y) : res = impl_PumpAll_enc y := by
  obtain ⟨rets, outs⟩ := res
  unfold impl_PumpAll_dec at h
  dsimp only at h
  split at h
  · obtain ⟨r0, h0, h⟩ := Option.bind_eq_some_iff.1 h
    obtain ⟨r1, h1, h⟩ := Option.bind_eq_some_iff.1 h
    obtain ⟨r2, h2, h⟩ := Option.bind_eq_some_iff.1 h
    obtain ⟨r3, h3, h⟩ := Option.bind_eq_some_iff.1 h
    cases h
    rw [retV_eq ok h0, retV_eq ok h1, retV_eq ok h2, retV_eq ok h3]
    rfl
  · cases h
def laws_eqFuel_dec (res : Res T) : Option Bool := match res.rets, res.outs with
  | [a0], [] => (retV (T := T) 4 a0).bind fun r0 => some (r0)
  | _, _ => none
def laws_eqFuel_enc (y : Bool) : Res T := ⟨[vR T 4 y], []⟩
theorem laws_eqFuel_de (res : Res T) (y : Bool) (h : laws_eqFuel_dec res = some y) : res = laws_eqFuel_enc y := by
  obtain ⟨rets, outs⟩ := res
  unfold laws_eqFuel_dec at h
  dsimp only at h
  split at h
  · obtain ⟨r0, h0, h⟩ := Option.bind_eq_some_iff.1 h
    cases h
    rw [retV_eq ok h0]
    rfl
  · cases h
def laws_eqFuelS_dec (res : Res T) : Option Bool := match res.rets, res.outs with
  | [a0], [] => (retV (T := T) 4 a0).bind fun r0 => some (r0)
  | _, _ => none
def laws_eqFuelS_enc (y : Bool) : Res T := ⟨[vR T 4 y], []⟩
theorem laws_eqFuelS_de (res : Res T) (y : Bool) (h : laws_eqFuelS_dec res = some y) : res = laws_eqFuelS_enc y := by
  obtain ⟨rets, outs⟩ := res
  unfold laws_eqFuelS_dec at h
  dsimp only at h
  split at h
  · obtain ⟨r0, h0, h⟩ := Option.bind_eq_some_iff.1 h
    cases h
    rw [retV_eq ok h0]
    rfl
  · cases h
def laws_eqIntS_dec (res : Res T) : Option Bool := match res.rets, res.outs with
  | [a0], [] => (retV (T := T) 4 a0).bind fun r0 => some (r0)
  | _, _ => none
def laws_eqIntS_enc (y : Bool) : Res T := ⟨[vR T 4 y], []⟩
theorem laws_eqIntS_de (res : Res T) (y : Bool) (h : laws_eqIntS_dec res = some y) : res = laws_eqIntS_enc y := by
  obtain ⟨rets, outs⟩ := res
  unfold laws_eqIntS_dec at h
  dsimp only at h
  split at h
  · obtain ⟨r0, h0, h⟩ := Option.bind_eq_some_iff.1 h
    cases h
    rw [retV_eq ok h0]
    rfl
  · cases h
def laws_eqPump_dec (res : Res T) : Option Bool := match res.rets, res.outs with
  | [a0], [] => (retV (T := T) 4 a0).bind fun r0 => some (r0)
  | _, _ => none
def laws_eqPump_enc (y : Bool) : Res T := ⟨[vR T 4 y], []⟩
theorem laws_eqPump_de (res : Res T) (y : Bool) (h : laws_eqPump_dec res = some y) : res = laws_eqPump_enc y := by
  obtain ⟨rets, outs⟩ := res
  unfold laws_eqPump_dec at h
  dsimp only at h
  split at h
  · obtain ⟨r0, h0, h⟩ := Option.bind_eq_some_iff.1 h
    cases h
    rw [retV_eq ok h0]
    rfl
  · cases h
def laws_eqPumpS_dec (res : Res T) : Option Bool := match res.rets, res.outs with
  | [a0], [] => (retV (T := T) 4 a0).bind fun r0 => some (r0)
  | _, _ => none
def laws_eqPumpS_enc (y : Bool) : Res T := ⟨[vR T 4 y], []⟩
theorem laws_eqPumpS_de (res : Res T) (y : Bool) (h : laws_eqPumpS_dec res = some y) : res = laws_eqPumpS_enc y := by
  obtain ⟨rets, outs⟩ := res
  unfold laws_eqPumpS_dec at h
  dsimp only at h
  split at h
  · obtain ⟨r0, h0, h⟩ := Option.bind_eq_some_iff.1 h
    cases h
    rw [retV_eq ok h0]
    rfl
  · cases h
def laws_markFuelS_dec (res : Res T) : Option (Int × List SFuel) := match res.rets, res.outs with
  | [a0], [b0] => (retV (T := T) 3 a0).bind fun r0 => (outS (T := T) 187 b0).bind fun r1 => some (r0, r1)
  | _, _ => none
def laws_markFuelS_enc (y : Int × List SFuel) : Res T := ⟨[vR T 3 y.1], [.sl 187 y.2]⟩
theorem laws_markFuelS_de (res : Res T) (y : Int × List SFuel) (h : laws_markFuelS_dec res = some y) : res = laws_markFuelS_enc y := by
  obtain ⟨rets, outs⟩ := res
  unfold laws_markFuelS_dec at h
  dsimp only at h
  split at h
  · obtain ⟨r0, h0, h⟩ := Option.bind_eq_some_iff.1 h
    obtain ⟨r1, h1, h⟩ := Option.bind_eq_some_iff.1 h
    cases h
    rw [retV_eq ok h0, outS_eq h1]
    rfl
  · cases h
def laws_markPumpS_dec (res : Res T) : Option (Int × List SPump) := match res.rets, res.outs with
  | [a0], [b0] => (retV (T := T) 3 a0).bind fun r0 => (outS (T := T) 185 b0).bind fun r1 => some (r0, r1)
  | _, _ => none
def laws_markPumpS_enc (y : Int × List SPump) : Res T := ⟨[vR T 3 y.1], [.sl 185 y.2]⟩
theorem laws_markPumpS_de (res : Res T) (y : Int × List SPump) (h : laws_markPumpS_dec res = some y) : res = laws_markPumpS_enc y := by
  obtain ⟨rets, outs⟩ := res
  unfold laws_markPumpS_dec at h
  dsimp only at h
  split at h
  · obtain ⟨r0, h0, h⟩ := Option.bind_eq_some_iff.1 h
    obtain ⟨r1, h1, h⟩ := Option.bind_eq_some_iff.1 h
    cases h
    rw [retV_eq ok h0, outS_eq h1]
    rfl
  · cases h
def laws_markIntS_dec (res : Res T) : Option (Int × List Int) := match res.rets, res.outs with
  | [a0], [b0] => (retV (T := T) 3 a0).bind fun r0 => (outS (T := T) 3 b0).bind fun r1 => some (r0, r1)
  | _, _ => none
def laws_markIntS_enc (y : Int × List Int) : Res T := ⟨[vR T 3 y.1], [.sl 3 y.2]⟩
theorem laws_markIntS_de (res : Res T) (y : Int × List Int) (h : laws_markIntS_dec res = some y) : res = laws_markIntS_enc y := by
  obtain ⟨rets, outs⟩ := res
  unfold laws_markIntS_dec at h
  dsimp only at h
  split at h
  · obtain ⟨r0, h0, h⟩ := Option.bind_eq_some_iff.1 h
    obtain ⟨r1, h1, h⟩ := Option.bind_eq_some_iff.1 h
    cases h
    rw [retV_eq ok h0, outS_eq h1]
    rfl
  · cases h
def laws_heldFuelS_dec (res : Res T) : Option Int := match res.rets, res.outs with
  | [a0], [] => (retV (T := T) 3 a0).bind fun r0 => some (r0)
  | _, _ => none
def laws_heldFuelS_enc (y : Int) : Res T := ⟨[vR T 3 y], []⟩
theorem laws_heldFuelS_de (res : Res T) (y : Int) (h : laws_heldFuelS_dec res = some y) : res = laws_heldFuelS_enc y := by
  obtain ⟨rets, outs⟩ := res
  unfold laws_heldFuelS_dec at h
  dsimp only at h
  split at h
  · obtain ⟨r0, h0, h⟩ := Option.bind_eq_some_iff.1 h
    cases h
    rw [retV_eq ok h0]
    rfl
  · cases h
def laws_heldIntS_dec (res : Res T) : Option Int := match res.rets, res.outs with
  | [a0], [] => (retV (T := T) 3 a0).bind fun r0 => some (r0)
  | _, _ => none
def laws_heldIntS_enc (y : Int) : Res T := ⟨[vR T 3 y], []⟩
theorem laws_heldIntS_de (res : Res T) (y : Int) (h : laws_heldIntS_dec res = some y) : res = laws_heldIntS_enc y := by
  obtain ⟨rets, outs⟩ := res
  unfold laws_heldIntS_dec at h
  dsimp only at h
  split at h
  · obtain ⟨r0, h0, h⟩ := Option.bind_eq_some_iff.1 h
    cases h
    rw [retV_eq ok h0]
    rfl
  · cases h
def laws_FnExactPumpAll_dec (res : Res T) : Option Bool := match res.rets, res.outs with
  | [a0], [] => (retV (T := T) 4 a0).bind fun r0 => some (r0)
  | _, _ => none
def laws_FnExactPumpAll_enc (y : Bool) : Res T := ⟨[vR T 4 y], []⟩
theorem laws_FnExactPumpAll_de (res : Res T) (y : Bool) (h : laws_FnExactPumpAll_dec res = some y) : res = laws_FnExactPumpAll_enc y := by
  obtain ⟨rets, outs⟩ := res
  unfold laws_FnExactPumpAll_dec at h
  dsimp only at h
  split at h
  · obtain ⟨r0, h0, h⟩ := Option.bind_eq_some_iff.1 h
    cases h
    rw [retV_eq ok h0]
    rfl
  · cases h
def laws_szFuelS_D (n : Nat) (ar : List (A T)) : Option Int := match ar with
  | [a0, a1] => (argV (T := T) 67 a0).bind fun a0 => (argV (T := T) 3 a1).bind fun left1 => laws_szFuelS n a0 left1
  | _ => none
def laws_szFuelS_ent (n : Nat) : Ent T := ⟨48, 0, [], Int, laws_szFuelS_D n, laws_szFuelS_enc⟩
def laws_szPumpS_D (n : Nat) (ar : List (A T)) : Option Int := match ar with
  | [a0, a1] => (argV (T := T) 68 a0).bind fun a0 => (argV (T := T) 3 a1).bind fun left1 => laws_szPumpS n a0 left1
  | _ => none
def laws_szPumpS_ent (n : Nat) : Ent T := ⟨49, 1, [], Int, laws_szPumpS_D n, laws_szPumpS_enc⟩
def laws_toFuel_D (n : Nat) (ar : List (A T)) : Option SFuel := match ar with
  | [a0] => (argV (T := T) 189 a0).bind fun a0 => laws_toFuel n a0
  | _ => none
def laws_toFuel_ent (n : Nat) : Ent T := ⟨135, 2, [], SFuel, laws_toFuel_D n, laws_toFuel_enc⟩
def laws_toFuelS_D (n : Nat) (ar : List (A T)) : Option (List SFuel) := match ar with
  | [a0] => (argV (T := T) 67 a0).bind fun a0 => laws_toFuelS n a0
  | _ => none
def laws_toFuelS_ent (n : Nat) : Ent T := ⟨51, 3, [], List SFuel, laws_toFuelS_D n, laws_toFuelS_enc⟩
def laws_toPump_D (n : Nat) (ar : List (A T)) : Option SPump := match ar with
  | [a0] => (argV (T := T) 191 a0).bind fun a0 => laws_toPump n a0
  | _ => none
def laws_toPump_ent (n : Nat) : Ent T := ⟨136, 4, [], SPump, laws_toPump_D n, laws_toPump_enc⟩
def laws_toPumpS_D (n : Nat) (ar : List (A T)) : Option (List SPump) := match ar with
  | [a0] => (argV (T := T) 68 a0).bind fun a0 => laws_toPumpS n a0
  | _ => none
def laws_toPumpS_ent (n : Nat) : Ent T := ⟨52, 5, [], List SPump, laws_toPumpS_D n, laws_toPumpS_enc⟩
def spec_l1In_D (n : Nat) (ar : List (A T)) : Option Bool := match ar with
  | [a0, a1, a2] => (argV (T := T) 3 a0).bind fun x0 => (argV (T := T) 3 a1).bind fun a1 => (argV (T := T) 3 a2).bind fun b2 => spec_l1In n x0 a1 b2
  | _ => none
def spec_l1In_ent (n : Nat) : Ent T := ⟨101, 6, [], Bool, spec_l1In_D n, spec_l1In_enc⟩
def spec_l10Fuels_D (n : Nat) (ar : List (A T)) : Option Bool := match ar with
  | [a0] => (argV (T := T) 71 a0).bind fun tanks0 => spec_l10Fuels n tanks0
  | _ => none
def spec_l10Fuels_ent (n : Nat) : Ent T := ⟨219, 7, [], Bool, spec_l10Fuels_D n, spec_l10Fuels_enc⟩
def spec_Pumped_D (n : Nat) (ar : List (A T)) : Option (List SFuel × Int) := match ar with
  | [a0, a1] => (argV (T := T) 71 a0).bind fun tanks0 => (argV (T := T) 185 a1).bind fun p1 => spec_Pumped n tanks0 p1
  | _ => none
def spec_Pumped_ent (n : Nat) : Ent T := ⟨134, 8, [], List SFuel × Int, spec_Pumped_D n, spec_Pumped_enc⟩
def spec_PumpAll_D (n : Nat) (ar : List (A T)) : Option (List SFuel × List Int × Int × Int) := match ar with
  | [a0, a1] => (argV (T := T) 71 a0).bind fun tanks0 => (argV (T := T) 75 a1).bind fun pumps1 => spec_PumpAll n tanks0 pumps1
  | _ => none
def spec_PumpAll_ent (n : Nat) : Ent T := ⟨50, 9, [], List SFuel × List Int × Int × Int, spec_PumpAll_D n, spec_PumpAll_enc⟩
def impl_own_impl_Fuel_D (n : Nat) (ar : List (A T)) : Option (List SFuel) := match ar with
  | [a0] => (argV (T := T) 71 a0).bind fun l0 => impl_own_impl_Fuel n l0
  | _ => none
def impl_own_impl_Fuel_ent (n : Nat) : Ent T := ⟨137, 10, [], List SFuel, impl_own_impl_Fuel_D n, impl_own_impl_Fuel_enc⟩
def impl_in_D (n : Nat) (ar : List (A T)) : Option Bool := match ar with
  | [a0, a1, a2] => (argV (T := T) 3 a0).bind fun n0 => (argV (T := T) 3 a1).bind fun least1 => (argV (T := T) 3 a2).bind fun most2 => impl_in n n0 least1 most2
  | _ => none
def impl_in_ent (n : Nat) : Ent T := ⟨113, 11, [], Bool, impl_in_D n, impl_in_enc⟩
def impl_tanksRight_1_D (n : Nat) (ar : List (A T)) : Option Bool := match ar with
  | [a0] => (argV (T := T) 187 a0).bind fun t0 => impl_tanksRight_1 n t0
  | _ => none
def impl_tanksRight_1_ent (n : Nat) : Ent T := ⟨250, 12, [], Bool, impl_tanksRight_1_D n, impl_tanksRight_1_enc⟩
def slices_IndexFunc_impl_Fuel_impl_Fuel__impl_tanksRight_1_D (n : Nat) (ar : List (A T)) : Option Int := match ar with
  | [a0, .fn _ []] => (argV (T := T) 71 a0).bind fun s0 => slices_IndexFunc_impl_Fuel_impl_Fuel__impl_tanksRight_1 n s0
  | _ => none
def slices_IndexFunc_impl_Fuel_impl_Fuel__impl_tanksRight_1_ent (n : Nat) : Ent T := ⟨266, 13, [250], Int, slices_IndexFunc_impl_Fuel_impl_Fuel__impl_tanksRight_1_D n, slices_IndexFunc_impl_Fuel_impl_Fuel__impl_tanksRight_1_enc⟩
def slices_ContainsFunc_impl_Fuel_impl_Fuel__impl_tanksRight_1_D (n : Nat) (ar : List (A T)) : Option Bool := match ar with
  | [a0, .fn _ []] => (argV (T := T) 71 a0).bind fun s0 => slices_ContainsFunc_impl_Fuel_impl_Fuel__impl_tanksRight_1 n s0
  | _ => none
def slices_ContainsFunc_impl_Fuel_impl_Fuel__impl_tanksRight_1_ent (n : Nat) : Ent T := ⟨249, 14, [250], Bool, slices_ContainsFunc_impl_Fuel_impl_Fuel__impl_tanksRight_1_D n, slices_ContainsFunc_impl_Fuel_impl_Fuel__impl_tanksRight_1_enc⟩
def impl_tanksRight_D (n : Nat) (ar : List (A T)) : Option Bool := match ar with
  | [a0] => (argV (T := T) 71 a0).bind fun tanks0 => impl_tanksRight n tanks0
  | _ => none
def impl_tanksRight_ent (n : Nat) : Ent T := ⟨220, 15, [], Bool, impl_tanksRight_D n, impl_tanksRight_enc⟩
def impl_Pumped_D (n : Nat) (ar : List (A T)) : Option (List SFuel × Int) := match ar with
  | [a0, a1] => (argV (T := T) 71 a0).bind fun tanks0 => (argV (T := T) 185 a1).bind fun p1 => impl_Pumped n tanks0 p1
  | _ => none
def impl_Pumped_ent (n : Nat) : Ent T := ⟨138, 16, [], List SFuel × Int, impl_Pumped_D n, impl_Pumped_enc⟩
def impl_own_int_D (n : Nat) (ar : List (A T)) : Option (List Int) := match ar with
  | [a0] => (argV (T := T) 24 a0).bind fun l0 => impl_own_int n l0
  | _ => none
def impl_own_int_ent (n : Nat) : Ent T := ⟨106, 17, [], List Int, impl_own_int_D n, impl_own_int_enc⟩
def impl_PumpAll_D (n : Nat) (ar : List (A T)) : Option (List SFuel × List Int × Int × Int) := match ar with
  | [a0, a1] => (argV (T := T) 71 a0).bind fun tanks0 => (argV (T := T) 75 a1).bind fun pumps1 => impl_PumpAll n tanks0 pumps1
  | _ => none
def impl_PumpAll_ent (n : Nat) : Ent T := ⟨53, 18, [], List SFuel × List Int × Int × Int, impl_PumpAll_D n, impl_PumpAll_enc⟩
def laws_eqFuel_D (n : Nat) (ar : List (A T)) : Option Bool := match ar with
  | [a0, a1] => (argV (T := T) 187 a0).bind fun a0 => (argV (T := T) 187 a1).bind fun b1 => laws_eqFuel n a0 b1
  | _ => none
def laws_eqFuel_ent (n : Nat) : Ent T := ⟨139, 19, [], Bool, laws_eqFuel_D n, laws_eqFuel_enc⟩
def laws_eqFuelS_D (n : Nat) (ar : List (A T)) : Option Bool := match ar with
  | [a0, a1] => (argV (T := T) 71 a0).bind fun a0 => (argV (T := T) 71 a1).bind fun b1 => laws_eqFuelS n a0 b1
  | _ => none
def laws_eqFuelS_ent (n : Nat) : Ent T := ⟨54, 20, [], Bool, laws_eqFuelS_D n, laws_eqFuelS_enc⟩
def laws_eqIntS_D (n : Nat) (ar : List (A T)) : Option Bool := match ar with
  | [a0, a1] => (argV (T := T) 24 a0).bind fun a0 => (argV (T := T) 24 a1).bind fun b1 => laws_eqIntS n a0 b1
  | _ => none
def laws_eqIntS_ent (n : Nat) : Ent T := ⟨19, 21, [], Bool, laws_eqIntS_D n, laws_eqIntS_enc⟩
def laws_eqPump_D (n : Nat) (ar : List (A T)) : Option Bool := match ar with
  | [a0, a1] => (argV (T := T) 185 a0).bind fun a0 => (argV (T := T) 185 a1).bind fun b1 => laws_eqPump n a0 b1
  | _ => none
def laws_eqPump_ent (n : Nat) : Ent T := ⟨140, 22, [], Bool, laws_eqPump_D n, laws_eqPump_enc⟩
def laws_eqPumpS_D (n : Nat) (ar : List (A T)) : Option Bool := match ar with
  | [a0, a1] => (argV (T := T) 75 a0).bind fun a0 => (argV (T := T) 75 a1).bind fun b1 => laws_eqPumpS n a0 b1
  | _ => none
def laws_eqPumpS_ent (n : Nat) : Ent T := ⟨55, 23, [], Bool, laws_eqPumpS_D n, laws_eqPumpS_enc⟩
def laws_markFuelS_D (n : Nat) (ar : List (A T)) : Option (Int × List SFuel) := match ar with
  | [a0, a1] => (argV (T := T) 71 a0).bind fun a0 => (argV (T := T) 3 a1).bind fun k1 => laws_markFuelS n a0 k1
  | _ => none
def laws_markFuelS_ent (n : Nat) : Ent T := ⟨56, 24, [], Int × List SFuel, laws_markFuelS_D n, laws_markFuelS_enc⟩
def laws_markPumpS_D (n : Nat) (ar : List (A T)) : Option (Int × List SPump) := match ar with
  | [a0, a1] => (argV (T := T) 75 a0).bind fun a0 => (argV (T := T) 3 a1).bind fun k1 => laws_markPumpS n a0 k1
  | _ => none
def laws_markPumpS_ent (n : Nat) : Ent T := ⟨57, 25, [], Int × List SPump, laws_markPumpS_D n, laws_markPumpS_enc⟩
def laws_markIntS_D (n : Nat) (ar : List (A T)) : Option (Int × List Int) := match ar with
  | [a0, a1] => (argV (T := T) 24 a0).bind fun a0 => (argV (T := T) 3 a1).bind fun k1 => laws_markIntS n a0 k1
  | _ => none
def laws_markIntS_ent (n : Nat) : Ent T := ⟨22, 26, [], Int × List Int, laws_markIntS_D n, laws_markIntS_enc⟩
def laws_heldFuelS_D (n : Nat) (ar : List (A T)) : Option Int := match ar with
  | [a0, a1] => (argV (T := T) 71 a0).bind fun a0 => (argV (T := T) 3 a1).bind fun k1 => laws_heldFuelS n a0 k1
  | _ => none
def laws_heldFuelS_ent (n : Nat) : Ent T := ⟨58, 27, [], Int, laws_heldFuelS_D n, laws_heldFuelS_enc⟩
def laws_heldIntS_D (n : Nat) (ar : List (A T)) : Option Int := match ar with
  | [a0, a1] => (argV (T := T) 24 a0).bind fun a0 => (argV (T := T) 3 a1).bind fun k1 => laws_heldIntS n a0 k1
  | _ => none
def laws_heldIntS_ent (n : Nat) : Ent T := ⟨23, 28, [], Int, laws_heldIntS_D n, laws_heldIntS_enc⟩
def laws_FnExactPumpAll_D (n : Nat) (ar : List (A T)) : Option Bool := match ar with
  | [a0, a1] => (argV (T := T) 67 a0).bind fun aTanks0 => (argV (T := T) 68 a1).bind fun aPumps1 => laws_FnExactPumpAll n aTanks0 aPumps1
  | _ => none
def laws_FnExactPumpAll_ent (n : Nat) : Ent T := ⟨7, 29, [], Bool, laws_FnExactPumpAll_D n, laws_FnExactPumpAll_enc⟩
def ents (n : Nat) : List (Ent T) := [laws_szFuelS_ent n, laws_szPumpS_ent n, laws_toFuel_ent n, laws_toFuelS_ent n, laws_toPump_ent n, laws_toPumpS_ent n, spec_l1In_ent n, spec_l10Fuels_ent n, spec_Pumped_ent n, spec_PumpAll_ent n, impl_own_impl_Fuel_ent n, impl_in_ent n, impl_tanksRight_1_ent n, slices_IndexFunc_impl_Fuel_impl_Fuel__impl_tanksRight_1_ent n, slices_ContainsFunc_impl_Fuel_impl_Fuel__impl_tanksRight_1_ent n, impl_tanksRight_ent n, impl_Pumped_ent n, impl_own_int_ent n, impl_PumpAll_ent n, laws_eqFuel_ent n, laws_eqFuelS_ent n, laws_eqIntS_ent n, laws_eqPump_ent n, laws_eqPumpS_ent n, laws_markFuelS_ent n, laws_markPumpS_ent n, laws_markIntS_ent n, laws_heldFuelS_ent n, laws_heldIntS_ent n, laws_FnExactPumpAll_ent n]
abbrev Phi (n i : Nat) {R : Type} (f : Nat) (ar : List (A T)) (K : Res T → Option R) : Option R := PhiE (ents n) i f ar K
theorem mixed : Try.prog.follows .mixedOrders = true := by kernel_rfl
noncomputable def laws_szFuelS_code : Code := match Try.f48.body with | some c => c | none => .skip
def laws_szFuelS_ann : Ann := fun id => none
def laws_szFuelS_Ls (n : Nat) : Nat → Option (LSpec T) := fun id => none
theorem laws_szFuelS_tie (n : Nat) (a0 : List SFuel) (left1 : Int) : evF (T := T) (Phi n 0) (laws_szFuelS_Ls n) laws_szFuelS_ann n Try.f48 (sg 48) [vA T 67 a0, vA T 3 left1] laws_szFuelS_dec = laws_szFuelS n a0 left1 := by kernel_rfl
theorem laws_szFuelS_lo (n : Nat) : LoopsOk (T := T) (Phi n 0) (laws_szFuelS_Ls n) laws_szFuelS_ann n laws_szFuelS_code := loopsOk_all (cs := []) (by kernel_rfl) trivial
theorem laws_szFuelS_ok (n : Nat) : EntOk Try.prog (ents n) (laws_szFuelS_ent n) := by
  intro hs ar y hg h
  replace h : laws_szFuelS_D n ar = some y := h
  unfold laws_szFuelS_D at h
  split at h
  · obtain ⟨a0, qh0, h⟩ := Option.bind_eq_some_iff.1 h
    obtain ⟨left1, qh1, h⟩ := Option.bind_eq_some_iff.1 h
    rw [argV_eq ok qh0, argV_eq ok qh1]
    exact call_of (phiE_nat _ _) hs ok mixed Try.func48 (c := laws_szFuelS_code) (by kernel_rfl) (laws_szFuelS_lo n) (by kernel_rfl) (by kernel_rfl) (by kernel_rfl) laws_szFuelS_de ((laws_szFuelS_tie n a0 left1).trans h)
  · cases h
noncomputable def laws_szPumpS_code : Code := match Try.f49.body with | some c => c | none => .skip
def laws_szPumpS_ann : Ann := fun id => none
def laws_szPumpS_Ls (n : Nat) : Nat → Option (LSpec T) := fun id => none
theorem laws_szPumpS_tie (n : Nat) (a0 : List SPump) (left1 : Int) : evF (T := T) (Phi n 1) (laws_szPumpS_Ls n) laws_szPumpS_ann n Try.f49 (sg 49) [vA T 68 a0, vA T 3 left1] laws_szPumpS_dec = laws_szPumpS n a0 left1 := by kernel_rfl
theorem laws_szPumpS_lo (n : Nat) : LoopsOk (T := T) (Phi n 1) (laws_szPumpS_Ls n) laws_szPumpS_ann n laws_szPumpS_code := loopsOk_all (cs := []) (by kernel_rfl) trivial
theorem laws_szPumpS_ok (n : Nat) : EntOk Try.prog (ents n) (laws_szPumpS_ent n) := by
  intro hs ar y hg h
  replace h : laws_szPumpS_D n ar = some y := h
  unfold laws_szPumpS_D at h
  split at h
  · obtain ⟨a0, qh0, h⟩ := Option.bind_eq_some_iff.1 h
    obtain ⟨left1, qh1, h⟩ := Option.bind_eq_some_iff.1 h
    rw [argV_eq ok qh0, argV_eq ok qh1]
    exact call_of (phiE_nat _ _) hs ok mixed Try.func49 (c := laws_szPumpS_code) (by kernel_rfl) (laws_szPumpS_lo n) (by kernel_rfl) (by kernel_rfl) (by kernel_rfl) laws_szPumpS_de ((laws_szPumpS_tie n a0 left1).trans h)
  · cases h
noncomputable def laws_toFuel_code : Code := match Try.f135.body with | some c => c | none => .skip
def laws_toFuel_ann : Ann := fun id => none
def laws_toFuel_Ls (n : Nat) : Nat → Option (LSpec T) := fun id => none
theorem laws_toFuel_tie (n : Nat) (a0 : SFuel) : evF (T := T) (Phi n 2) (laws_toFuel_Ls n) laws_toFuel_ann n Try.f135 (sg 135) [vA T 189 a0] laws_toFuel_dec = laws_toFuel n a0 := by kernel_rfl
theorem laws_toFuel_lo (n : Nat) : LoopsOk (T := T) (Phi n 2) (laws_toFuel_Ls n) laws_toFuel_ann n laws_toFuel_code := loopsOk_all (cs := []) (by kernel_rfl) trivial
theorem laws_toFuel_ok (n : Nat) : EntOk Try.prog (ents n) (laws_toFuel_ent n) := by
  intro hs ar y hg h
  replace h : laws_toFuel_D n ar = some y := h
  unfold laws_toFuel_D at h
  split at h
  · obtain ⟨a0, qh0, h⟩ := Option.bind_eq_some_iff.1 h
    rw [argV_eq ok qh0]
    exact call_of (phiE_nat _ _) hs ok mixed Try.func135 (c := laws_toFuel_code) (by kernel_rfl) (laws_toFuel_lo n) (by kernel_rfl) (by kernel_rfl) (by kernel_rfl) laws_toFuel_de ((laws_toFuel_tie n a0).trans h)
  · cases h
noncomputable def laws_toFuelS_code : Code := match Try.f51.body with | some c => c | none => .skip
def laws_toFuelS_3_sv : List Sv := [.one (.arr 189), .one (.own 3000000 187 false), .one (.int .i64)]
def laws_toFuelS_3_so : List So := [.arr 187 false]
def laws_toFuelS_3_emb (c : List SFuel) (x : Int × List SFuel) : EVs T laws_toFuelS_3_sv × EOs T laws_toFuelS_3_so := ((c, (), x.1, ()), (x.2, ()))
def laws_toFuelS_3_prj (y : EVs T laws_toFuelS_3_sv × EOs T laws_toFuelS_3_so) : List SFuel × (Int × List SFuel) := ((y.1.1), (y.1.2.2.1, y.2.1))
def laws_toFuelS_3_b (n : Nat) {R : Type} (K : Ex → Sm.St T → Option R) (c : List SFuel) (x : Int × List SFuel) (J : (Int × List SFuel) → Option R) : Option R :=
  laws_toFuelS_L3 n (fun (y0 : List SFuel) => K (.exit 0) (stOf (T := T) [3] [3000000] [.one (.own 3000000 187 false)] [.arr 187 false] ((), ()) (y0, ()))) (fun z0 z1 => J (z0, z1)) c x.1 x.2
def laws_toFuelS_3_sp (n : Nat) : LSpec T := mkSpec T ⟨[((.reg 3), 3000000, 187)], [0, 3, 4], [3000000]⟩ laws_toFuelS_3_sv laws_toFuelS_3_so (List SFuel) (Int × List SFuel) laws_toFuelS_3_emb laws_toFuelS_3_prj (laws_toFuelS_3_b n)
noncomputable def laws_toFuelS_3_c : Code := ((loopCodes laws_toFuelS_code)[0]?).getD .skip
def laws_toFuelS_ann : Ann := fun id => bif Nat.beq id 3000003 then some ⟨[((.reg 3), 3000000, 187)], [3], [3000000]⟩ else none
def laws_toFuelS_Ls (n : Nat) : Nat → Option (LSpec T) := fun id => bif Nat.beq id 3 then some (laws_toFuelS_3_sp n) else none
theorem laws_toFuelS_3_le (n : Nat) : LoopEq (T := T) (Phi n 3) (laws_toFuelS_Ls n) laws_toFuelS_ann n laws_toFuelS_3_c (laws_toFuelS_3_sp n) := ⟨mkSpec_dec (fun y => rfl), fun c x => by kernel_rfl, fun K J c x => by kernel_rfl⟩
theorem laws_toFuelS_tie (n : Nat) (a0 : List SFuel) : evF (T := T) (Phi n 3) (laws_toFuelS_Ls n) laws_toFuelS_ann n Try.f51 (sg 51) [vA T 67 a0] laws_toFuelS_dec = laws_toFuelS n a0 := by kernel_rfl
theorem laws_toFuelS_lo (n : Nat) : LoopsOk (T := T) (Phi n 3) (laws_toFuelS_Ls n) laws_toFuelS_ann n laws_toFuelS_code := loopsOk_all (cs := [laws_toFuelS_3_c]) (by kernel_rfl) ⟨⟨_, by kernel_rfl, laws_toFuelS_3_le n⟩, trivial⟩
theorem laws_toFuelS_ok (n : Nat) : EntOk Try.prog (ents n) (laws_toFuelS_ent n) := by
  intro hs ar y hg h
  replace h : laws_toFuelS_D n ar = some y := h
  unfold laws_toFuelS_D at h
  split at h
  · obtain ⟨a0, qh0, h⟩ := Option.bind_eq_some_iff.1 h
    rw [argV_eq ok qh0]
    exact call_of (phiE_nat _ _) hs ok mixed Try.func51 (c := laws_toFuelS_code) (by kernel_rfl) (laws_toFuelS_lo n) (by kernel_rfl) (by kernel_rfl) (by kernel_rfl) laws_toFuelS_de ((laws_toFuelS_tie n a0).trans h)
  · cases h
noncomputable def laws_toPump_code : Code := match Try.f136.body with | some c => c | none => .skip
def laws_toPump_ann : Ann := fun id => none
def laws_toPump_Ls (n : Nat) : Nat → Option (LSpec T) := fun id => none
theorem laws_toPump_tie (n : Nat) (a0 : SPump) : evF (T := T) (Phi n 4) (laws_toPump_Ls n) laws_toPump_ann n Try.f136 (sg 136) [vA T 191 a0] laws_toPump_dec = laws_toPump n a0 := by kernel_rfl
theorem laws_toPump_lo (n : Nat) : LoopsOk (T := T) (Phi n 4) (laws_toPump_Ls n) laws_toPump_ann n laws_toPump_code := loopsOk_all (cs := []) (by kernel_rfl) trivial
theorem laws_toPump_ok (n : Nat) : EntOk Try.prog (ents n) (laws_toPump_ent n) := by
  intro hs ar y hg h
  replace h : laws_toPump_D n ar = some y := h
  unfold laws_toPump_D at h
  split at h
  · obtain ⟨a0, qh0, h⟩ := Option.bind_eq_some_iff.1 h
    rw [argV_eq ok qh0]
    exact call_of (phiE_nat _ _) hs ok mixed Try.func136 (c := laws_toPump_code) (by kernel_rfl) (laws_toPump_lo n) (by kernel_rfl) (by kernel_rfl) (by kernel_rfl) laws_toPump_de ((laws_toPump_tie n a0).trans h)
  · cases h
noncomputable def laws_toPumpS_code : Code := match Try.f52.body with | some c => c | none => .skip
def laws_toPumpS_3_sv : List Sv := [.one (.arr 191), .one (.own 3000000 185 false), .one (.int .i64)]
def laws_toPumpS_3_so : List So := [.arr 185 false]
def laws_toPumpS_3_emb (c : List SPump) (x : Int × List SPump) : EVs T laws_toPumpS_3_sv × EOs T laws_toPumpS_3_so := ((c, (), x.1, ()), (x.2, ()))
def laws_toPumpS_3_prj (y : EVs T laws_toPumpS_3_sv × EOs T laws_toPumpS_3_so) : List SPump × (Int × List SPump) := ((y.1.1), (y.1.2.2.1, y.2.1))
def laws_toPumpS_3_b (n : Nat) {R : Type} (K : Ex → Sm.St T → Option R) (c : List SPump) (x : Int × List SPump) (J : (Int × List SPump) → Option R) : Option R :=
  laws_toPumpS_L3 n (fun (y0 : List SPump) => K (.exit 0) (stOf (T := T) [3] [3000000] [.one (.own 3000000 185 false)] [.arr 185 false] ((), ()) (y0, ()))) (fun z0 z1 => J (z0, z1)) c x.1 x.2
def laws_toPumpS_3_sp (n : Nat) : LSpec T := mkSpec T ⟨[((.reg 3), 3000000, 185)], [0, 3, 4], [3000000]⟩ laws_toPumpS_3_sv laws_toPumpS_3_so (List SPump) (Int × List SPump) laws_toPumpS_3_emb laws_toPumpS_3_prj (laws_toPumpS_3_b n)
noncomputable def laws_toPumpS_3_c : Code := ((loopCodes laws_toPumpS_code)[0]?).getD .skip
def laws_toPumpS_ann : Ann := fun id => bif Nat.beq id 3000003 then some ⟨[((.reg 3), 3000000, 185)], [3], [3000000]⟩ else none
def laws_toPumpS_Ls (n : Nat) : Nat → Option (LSpec T) := fun id => bif Nat.beq id 3 then some (laws_toPumpS_3_sp n) else none
theorem laws_toPumpS_3_le (n : Nat) : LoopEq (T := T) (Phi n 5) (laws_toPumpS_Ls n) laws_toPumpS_ann n laws_toPumpS_3_c (laws_toPumpS_3_sp n) := ⟨mkSpec_dec (fun y => rfl), fun c x => by kernel_rfl, fun K J c x => by kernel_rfl⟩
theorem laws_toPumpS_tie (n : Nat) (a0 : List SPump) : evF (T := T) (Phi n 5) (laws_toPumpS_Ls n) laws_toPumpS_ann n Try.f52 (sg 52) [vA T 68 a0] laws_toPumpS_dec = laws_toPumpS n a0 := by kernel_rfl
theorem laws_toPumpS_lo (n : Nat) : LoopsOk (T := T) (Phi n 5) (laws_toPumpS_Ls n) laws_toPumpS_ann n laws_toPumpS_code := loopsOk_all (cs := [laws_toPumpS_3_c]) (by kernel_rfl) ⟨⟨_, by kernel_rfl, laws_toPumpS_3_le n⟩, trivial⟩
theorem laws_toPumpS_ok (n : Nat) : EntOk Try.prog (ents n) (laws_toPumpS_ent n) := by
  intro hs ar y hg h
  replace h : laws_toPumpS_D n ar = some y := h
  unfold laws_toPumpS_D at h
  split at h
  · obtain ⟨a0, qh0, h⟩ := Option.bind_eq_some_iff.1 h
    rw [argV_eq ok qh0]
    exact call_of (phiE_nat _ _) hs ok mixed Try.func52 (c := laws_toPumpS_code) (by kernel_rfl) (laws_toPumpS_lo n) (by kernel_rfl) (by kernel_rfl) (by kernel_rfl) laws_toPumpS_de ((laws_toPumpS_tie n a0).trans h)
  · cases h
noncomputable def spec_l1In_code : Code := match Try.f101.body with | some c => c | none => .skip
def spec_l1In_ann : Ann := fun id => none
def spec_l1In_Ls (n : Nat) : Nat → Option (LSpec T) := fun id => none
theorem spec_l1In_tie (n : Nat) (x0 : Int) (a1 : Int) (b2 : Int) : evF (T := T) (Phi n 6) (spec_l1In_Ls n) spec_l1In_ann n Try.f101 (sg 101) [vA T 3 x0, vA T 3 a1, vA T 3 b2] spec_l1In_dec = spec_l1In n x0 a1 b2 := by kernel_rfl
theorem spec_l1In_lo (n : Nat) : LoopsOk (T := T) (Phi n 6) (spec_l1In_Ls n) spec_l1In_ann n spec_l1In_code := loopsOk_all (cs := []) (by kernel_rfl) trivial
theorem spec_l1In_ok (n : Nat) : EntOk Try.prog (ents n) (spec_l1In_ent n) := by
  intro hs ar y hg h
  replace h : spec_l1In_D n ar = some y := h
  unfold spec_l1In_D at h
  split at h
  · obtain ⟨x0, qh0, h⟩ := Option.bind_eq_some_iff.1 h
    obtain ⟨a1, qh1, h⟩ := Option.bind_eq_some_iff.1 h
    obtain ⟨b2, qh2, h⟩ := Option.bind_eq_some_iff.1 h
    rw [argV_eq ok qh0, argV_eq ok qh1, argV_eq ok qh2]
    exact call_of (phiE_nat _ _) hs ok mixed Try.func101 (c := spec_l1In_code) (by kernel_rfl) (spec_l1In_lo n) (by kernel_rfl) (by kernel_rfl) (by kernel_rfl) spec_l1In_de ((spec_l1In_tie n x0 a1 b2).trans h)
  · cases h
noncomputable def spec_l10Fuels_code : Code := match Try.f219.body with | some c => c | none => .skip
def spec_l10Fuels_2_sv : List Sv := [.one (.arr 187), .one (.int .i64)]
def spec_l10Fuels_2_so : List So := []
def spec_l10Fuels_2_emb (c : List SFuel) (x : Int) : EVs T spec_l10Fuels_2_sv × EOs T spec_l10Fuels_2_so := ((c, x, ()), ())
def spec_l10Fuels_2_prj (y : EVs T spec_l10Fuels_2_sv × EOs T spec_l10Fuels_2_so) : List SFuel × Int := ((y.1.1), (y.1.2.1))
def spec_l10Fuels_2_b (n : Nat) {R : Type} (K : Ex → Sm.St T → Option R) (c : List SFuel) (x : Int) (J : Int → Option R) : Option R :=
  spec_l10Fuels_L2 n (K (.exit 0) (stOf (T := T) [0] [] [.one (.arr 187)] [] (c, ()) ())) (fun (y0 : Bool) => K .ret (stOf (T := T) [2] [] [.one (.bool)] [] (y0, ()) ())) J c x
def spec_l10Fuels_2_sp (n : Nat) : LSpec T := mkSpec T ⟨[], [0, 3], []⟩ spec_l10Fuels_2_sv spec_l10Fuels_2_so (List SFuel) (Int) spec_l10Fuels_2_emb spec_l10Fuels_2_prj (spec_l10Fuels_2_b n)
noncomputable def spec_l10Fuels_2_c : Code := ((loopCodes spec_l10Fuels_code)[0]?).getD .skip
def spec_l10Fuels_ann : Ann := fun id => bif Nat.beq id 3000002 then some ⟨[], [0], []⟩ else bif Nat.beq id 2000002 then some ⟨[], [2], []⟩ else none
def spec_l10Fuels_Ls (n : Nat) : Nat → Option (LSpec T) := fun id => bif Nat.beq id 2 then some (spec_l10Fuels_2_sp n) else none
theorem spec_l10Fuels_2_le (n : Nat) : LoopEq (T := T) (Phi n 7) (spec_l10Fuels_Ls n) spec_l10Fuels_ann n spec_l10Fuels_2_c (spec_l10Fuels_2_sp n) := ⟨mkSpec_dec (fun y => rfl), fun c x => by kernel_rfl, fun K J c x => by kernel_rfl⟩
theorem spec_l10Fuels_tie (n : Nat) (tanks0 : List SFuel) : evF (T := T) (Phi n 7) (spec_l10Fuels_Ls n) spec_l10Fuels_ann n Try.f219 (sg 219) [vA T 71 tanks0] spec_l10Fuels_dec = spec_l10Fuels n tanks0 := by kernel_rfl
theorem spec_l10Fuels_lo (n : Nat) : LoopsOk (T := T) (Phi n 7) (spec_l10Fuels_Ls n) spec_l10Fuels_ann n spec_l10Fuels_code := loopsOk_all (cs := [spec_l10Fuels_2_c]) (by kernel_rfl) ⟨⟨_, by kernel_rfl, spec_l10Fuels_2_le n⟩, trivial⟩
theorem spec_l10Fuels_ok (n : Nat) : EntOk Try.prog (ents n) (spec_l10Fuels_ent n) := by
  intro hs ar y hg h
  replace h : spec_l10Fuels_D n ar = some y := h
  unfold spec_l10Fuels_D at h
  split at h
  · obtain ⟨tanks0, qh0, h⟩ := Option.bind_eq_some_iff.1 h
    rw [argV_eq ok qh0]
    exact call_of (phiE_nat _ _) hs ok mixed Try.func219 (c := spec_l10Fuels_code) (by kernel_rfl) (spec_l10Fuels_lo n) (by kernel_rfl) (by kernel_rfl) (by kernel_rfl) spec_l10Fuels_de ((spec_l10Fuels_tie n tanks0).trans h)
  · cases h
noncomputable def spec_Pumped_code : Code := match Try.f134.body with | some c => c | none => .skip
def spec_Pumped_ann : Ann := fun id => none
def spec_Pumped_Ls (n : Nat) : Nat → Option (LSpec T) := fun id => none
theorem spec_Pumped_tie (n : Nat) (tanks0 : List SFuel) (p1 : SPump) : evF (T := T) (Phi n 8) (spec_Pumped_Ls n) spec_Pumped_ann n Try.f134 (sg 134) [vA T 71 tanks0, vA T 185 p1] spec_Pumped_dec = spec_Pumped n tanks0 p1 := by kernel_rfl
theorem spec_Pumped_lo (n : Nat) : LoopsOk (T := T) (Phi n 8) (spec_Pumped_Ls n) spec_Pumped_ann n spec_Pumped_code := loopsOk_all (cs := []) (by kernel_rfl) trivial
theorem spec_Pumped_ok (n : Nat) : EntOk Try.prog (ents n) (spec_Pumped_ent n) := by
  intro hs ar y hg h
  replace h : spec_Pumped_D n ar = some y := h
  unfold spec_Pumped_D at h
  split at h
  · obtain ⟨tanks0, qh0, h⟩ := Option.bind_eq_some_iff.1 h
    obtain ⟨p1, qh1, h⟩ := Option.bind_eq_some_iff.1 h
    rw [argV_eq ok qh0, argV_eq ok qh1]
    exact call_of (phiE_nat _ _) hs ok mixed Try.func134 (c := spec_Pumped_code) (by kernel_rfl) (spec_Pumped_lo n) (by kernel_rfl) (by kernel_rfl) (by kernel_rfl) spec_Pumped_de ((spec_Pumped_tie n tanks0 p1).trans h)
  · cases h
noncomputable def spec_PumpAll_code : Code := match Try.f50.body with | some c => c | none => .skip
def spec_PumpAll_5_sv : List Sv := [.one (.arr 185), .one (.own 3000000 187 false), .one (.own 3000001 3 false), .one (.int .i64), .one (.int .i64), .one (.int .i64)]
def spec_PumpAll_5_so : List So := [.arr 187 false, .arr 3 false]
def spec_PumpAll_5_emb (c : List SPump) (x : Int × Int × Int × List SFuel × List Int) : EVs T spec_PumpAll_5_sv × EOs T spec_PumpAll_5_so := ((c, (), (), x.1, x.2.1, x.2.2.1, ()), (x.2.2.2.1, x.2.2.2.2, ()))
def spec_PumpAll_5_prj (y : EVs T spec_PumpAll_5_sv × EOs T spec_PumpAll_5_so) : List SPump × (Int × Int × Int × List SFuel × List Int) := ((y.1.1), (y.1.2.2.2.1, y.1.2.2.2.2.1, y.1.2.2.2.2.2.1, y.2.1, y.2.2.1))
def spec_PumpAll_5_b (n : Nat) {R : Type} (K : Ex → Sm.St T → Option R) (c : List SPump) (x : Int × Int × Int × List SFuel × List Int) (J : (Int × Int × Int × List SFuel × List Int) → Option R) : Option R :=
  spec_PumpAll_L5 n (fun (y0 : Int) (y1 : Int) (y2 : List SFuel) (y3 : List Int) => K (.exit 0) (stOf (T := T) [8, 9, 10, 11] [3000000, 3000001] [.one (.own 3000000 187 false), .one (.own 3000001 3 false), .one (.int .i64), .one (.int .i64)] [.arr 187 false, .arr 3 false] ((), (), y0, y1, ()) (y2, y3, ()))) (fun z0 z1 z2 z3 z4 => J (z0, z1, z2, z3, z4)) c x.1 x.2.1 x.2.2.1 x.2.2.2.1 x.2.2.2.2
def spec_PumpAll_5_sp (n : Nat) : LSpec T := mkSpec T ⟨[((.reg 8), 3000000, 187), ((.reg 9), 3000001, 3)], [1, 8, 9, 10, 11, 12], [3000000, 3000001]⟩ spec_PumpAll_5_sv spec_PumpAll_5_so (List SPump) (Int × Int × Int × List SFuel × List Int) spec_PumpAll_5_emb spec_PumpAll_5_prj (spec_PumpAll_5_b n)
noncomputable def spec_PumpAll_5_c : Code := ((loopCodes spec_PumpAll_code)[0]?).getD .skip
def spec_PumpAll_ann : Ann := fun id => bif Nat.beq id 3000005 then some ⟨[((.reg 8), 3000000, 187), ((.reg 9), 3000001, 3)], [8, 9, 10, 11], [3000000, 3000001]⟩ else none
def spec_PumpAll_Ls (n : Nat) : Nat → Option (LSpec T) := fun id => bif Nat.beq id 5 then some (spec_PumpAll_5_sp n) else none
theorem spec_PumpAll_5_le (n : Nat) : LoopEq (T := T) (Phi n 9) (spec_PumpAll_Ls n) spec_PumpAll_ann n spec_PumpAll_5_c (spec_PumpAll_5_sp n) := ⟨mkSpec_dec (fun y => rfl), fun c x => by kernel_rfl, fun K J c x => by kernel_rfl⟩
theorem spec_PumpAll_tie (n : Nat) (tanks0 : List SFuel) (pumps1 : List SPump) : evF (T := T) (Phi n 9) (spec_PumpAll_Ls n) spec_PumpAll_ann n Try.f50 (sg 50) [vA T 71 tanks0, vA T 75 pumps1] spec_PumpAll_dec = spec_PumpAll n tanks0 pumps1 := by kernel_rfl
theorem spec_PumpAll_lo (n : Nat) : LoopsOk (T := T) (Phi n 9) (spec_PumpAll_Ls n) spec_PumpAll_ann n spec_PumpAll_code := loopsOk_all (cs := [spec_PumpAll_5_c]) (by kernel_rfl) ⟨⟨_, by kernel_rfl, spec_PumpAll_5_le n⟩, trivial⟩
theorem spec_PumpAll_ok (n : Nat) : EntOk Try.prog (ents n) (spec_PumpAll_ent n) := by
  intro hs ar y hg h
  replace h : spec_PumpAll_D n ar = some y := h
  unfold spec_PumpAll_D at h
  split at h
  · obtain ⟨tanks0, qh0, h⟩ := Option.bind_eq_some_iff.1 h
    obtain ⟨pumps1, qh1, h⟩ := Option.bind_eq_some_iff.1 h
    rw [argV_eq ok qh0, argV_eq ok qh1]
    exact call_of (phiE_nat _ _) hs ok mixed Try.func50 (c := spec_PumpAll_code) (by kernel_rfl) (spec_PumpAll_lo n) (by kernel_rfl) (by kernel_rfl) (by kernel_rfl) spec_PumpAll_de ((spec_PumpAll_tie n tanks0 pumps1).trans h)
  · cases h
noncomputable def impl_own_impl_Fuel_code : Code := match Try.f137.body with | some c => c | none => .skip
def impl_own_impl_Fuel_ann : Ann := fun id => none
def impl_own_impl_Fuel_Ls (n : Nat) : Nat → Option (LSpec T) := fun id => none
theorem impl_own_impl_Fuel_tie (n : Nat) (l0 : List SFuel) : evF (T := T) (Phi n 10) (impl_own_impl_Fuel_Ls n) impl_own_impl_Fuel_ann n Try.f137 (sg 137) [vA T 71 l0] impl_own_impl_Fuel_dec = impl_own_impl_Fuel n l0 := by kernel_rfl
theorem impl_own_impl_Fuel_lo (n : Nat) : LoopsOk (T := T) (Phi n 10) (impl_own_impl_Fuel_Ls n) impl_own_impl_Fuel_ann n impl_own_impl_Fuel_code := loopsOk_all (cs := []) (by kernel_rfl) trivial
theorem impl_own_impl_Fuel_ok (n : Nat) : EntOk Try.prog (ents n) (impl_own_impl_Fuel_ent n) := by
  intro hs ar y hg h
  replace h : impl_own_impl_Fuel_D n ar = some y := h
  unfold impl_own_impl_Fuel_D at h
  split at h
  · obtain ⟨l0, qh0, h⟩ := Option.bind_eq_some_iff.1 h
    rw [argV_eq ok qh0]
    exact call_of (phiE_nat _ _) hs ok mixed Try.func137 (c := impl_own_impl_Fuel_code) (by kernel_rfl) (impl_own_impl_Fuel_lo n) (by kernel_rfl) (by kernel_rfl) (by kernel_rfl) impl_own_impl_Fuel_de ((impl_own_impl_Fuel_tie n l0).trans h)
  · cases h
noncomputable def impl_in_code : Code := match Try.f113.body with | some c => c | none => .skip
def impl_in_ann : Ann := fun id => none
def impl_in_Ls (n : Nat) : Nat → Option (LSpec T) := fun id => none
theorem impl_in_tie (n : Nat) (n0 : Int) (least1 : Int) (most2 : Int) : evF (T := T) (Phi n 11) (impl_in_Ls n) impl_in_ann n Try.f113 (sg 113) [vA T 3 n0, vA T 3 least1, vA T 3 most2] impl_in_dec = impl_in n n0 least1 most2 := by kernel_rfl
theorem impl_in_lo (n : Nat) : LoopsOk (T := T) (Phi n 11) (impl_in_Ls n) impl_in_ann n impl_in_code := loopsOk_all (cs := []) (by kernel_rfl) trivial
theorem impl_in_ok (n : Nat) : EntOk Try.prog (ents n) (impl_in_ent n) := by
  intro hs ar y hg h
  replace h : impl_in_D n ar = some y := h
  unfold impl_in_D at h
  split at h
  · obtain ⟨n0, qh0, h⟩ := Option.bind_eq_some_iff.1 h
    obtain ⟨least1, qh1, h⟩ := Option.bind_eq_some_iff.1 h
    obtain ⟨most2, qh2, h⟩ := Option.bind_eq_some_iff.1 h
    rw [argV_eq ok qh0, argV_eq ok qh1, argV_eq ok qh2]
    exact call_of (phiE_nat _ _) hs ok mixed Try.func113 (c := impl_in_code) (by kernel_rfl) (impl_in_lo n) (by kernel_rfl) (by kernel_rfl) (by kernel_rfl) impl_in_de ((impl_in_tie n n0 least1 most2).trans h)
  · cases h
noncomputable def impl_tanksRight_1_code : Code := match Try.f250.body with | some c => c | none => .skip
def impl_tanksRight_1_ann : Ann := fun id => none
def impl_tanksRight_1_Ls (n : Nat) : Nat → Option (LSpec T) := fun id => none
theorem impl_tanksRight_1_tie (n : Nat) (t0 : SFuel) : evF (T := T) (Phi n 12) (impl_tanksRight_1_Ls n) impl_tanksRight_1_ann n Try.f250 (sg 250) [vA T 187 t0] impl_tanksRight_1_dec = impl_tanksRight_1 n t0 := by kernel_rfl
theorem impl_tanksRight_1_lo (n : Nat) : LoopsOk (T := T) (Phi n 12) (impl_tanksRight_1_Ls n) impl_tanksRight_1_ann n impl_tanksRight_1_code := loopsOk_all (cs := []) (by kernel_rfl) trivial
theorem impl_tanksRight_1_ok (n : Nat) : EntOk Try.prog (ents n) (impl_tanksRight_1_ent n) := by
  intro hs ar y hg h
  replace h : impl_tanksRight_1_D n ar = some y := h
  unfold impl_tanksRight_1_D at h
  split at h
  · obtain ⟨t0, qh0, h⟩ := Option.bind_eq_some_iff.1 h
    rw [argV_eq ok qh0]
    exact call_of (phiE_nat _ _) hs ok mixed Try.func250 (c := impl_tanksRight_1_code) (by kernel_rfl) (impl_tanksRight_1_lo n) (by kernel_rfl) (by kernel_rfl) (by kernel_rfl) impl_tanksRight_1_de ((impl_tanksRight_1_tie n t0).trans h)
  · cases h
noncomputable def slices_IndexFunc_impl_Fuel_impl_Fuel__impl_tanksRight_1_code : Code := match Try.f266.body with | some c => c | none => .skip
def slices_IndexFunc_impl_Fuel_impl_Fuel__impl_tanksRight_1_2_sv : List Sv := [.one (.arr 187), .one (.fn 250 []), .one (.int .i64), .one (.int .i64)]
def slices_IndexFunc_impl_Fuel_impl_Fuel__impl_tanksRight_1_2_so : List So := []
def slices_IndexFunc_impl_Fuel_impl_Fuel__impl_tanksRight_1_2_emb (c : List SFuel × Int) (x : Int) : EVs T slices_IndexFunc_impl_Fuel_impl_Fuel__impl_tanksRight_1_2_sv × EOs T slices_IndexFunc_impl_Fuel_impl_Fuel__impl_tanksRight_1_2_so := ((c.1, (), c.2, x, ()), ())
def slices_IndexFunc_impl_Fuel_impl_Fuel__impl_tanksRight_1_2_prj (y : EVs T slices_IndexFunc_impl_Fuel_impl_Fuel__impl_tanksRight_1_2_sv × EOs T slices_IndexFunc_impl_Fuel_impl_Fuel__impl_tanksRight_1_2_so) : (List SFuel × Int) × Int := ((y.1.1, y.1.2.2.1), (y.1.2.2.2.1))
def slices_IndexFunc_impl_Fuel_impl_Fuel__impl_tanksRight_1_2_b (n : Nat) {R : Type} (K : Ex → Sm.St T → Option R) (c : List SFuel × Int) (x : Int) (J : Int → Option R) : Option R :=
  slices_IndexFunc_impl_Fuel_impl_Fuel__impl_tanksRight_1_L2 n (K (.exit 0) (stOf (T := T) [] [] [] [] () ())) (fun (y0 : Int) => K .ret (stOf (T := T) [4] [] [.one (.int .i64)] [] (y0, ()) ())) J c.1 c.2 x
def slices_IndexFunc_impl_Fuel_impl_Fuel__impl_tanksRight_1_2_sp (n : Nat) : LSpec T := mkSpec T ⟨[], [0, 1, 7, 8], []⟩ slices_IndexFunc_impl_Fuel_impl_Fuel__impl_tanksRight_1_2_sv slices_IndexFunc_impl_Fuel_impl_Fuel__impl_tanksRight_1_2_so (List SFuel × Int) (Int) slices_IndexFunc_impl_Fuel_impl_Fuel__impl_tanksRight_1_2_emb slices_IndexFunc_impl_Fuel_impl_Fuel__impl_tanksRight_1_2_prj (slices_IndexFunc_impl_Fuel_impl_Fuel__impl_tanksRight_1_2_b n)
noncomputable def slices_IndexFunc_impl_Fuel_impl_Fuel__impl_tanksRight_1_2_c : Code := ((loopCodes slices_IndexFunc_impl_Fuel_impl_Fuel__impl_tanksRight_1_code)[0]?).getD .skip
def slices_IndexFunc_impl_Fuel_impl_Fuel__impl_tanksRight_1_ann : Ann := fun id => bif Nat.beq id 3000002 then some ⟨[], [], []⟩ else bif Nat.beq id 2000002 then some ⟨[], [4], []⟩ else none
def slices_IndexFunc_impl_Fuel_impl_Fuel__impl_tanksRight_1_Ls (n : Nat) : Nat → Option (LSpec T) := fun id => bif Nat.beq id 2 then some (slices_IndexFunc_impl_Fuel_impl_Fuel__impl_tanksRight_1_2_sp n) else none
theorem slices_IndexFunc_impl_Fuel_impl_Fuel__impl_tanksRight_1_2_le (n : Nat) : LoopEq (T := T) (Phi n 13) (slices_IndexFunc_impl_Fuel_impl_Fuel__impl_tanksRight_1_Ls n) slices_IndexFunc_impl_Fuel_impl_Fuel__impl_tanksRight_1_ann n slices_IndexFunc_impl_Fuel_impl_Fuel__impl_tanksRight_1_2_c (slices_IndexFunc_impl_Fuel_impl_Fuel__impl_tanksRight_1_2_sp n) := ⟨mkSpec_dec (fun y => rfl), fun c x => by kernel_rfl, fun K J c x => by kernel_rfl⟩
theorem slices_IndexFunc_impl_Fuel_impl_Fuel__impl_tanksRight_1_tie (n : Nat) (s0 : List SFuel) : evF (T := T) (Phi n 13) (slices_IndexFunc_impl_Fuel_impl_Fuel__impl_tanksRight_1_Ls n) slices_IndexFunc_impl_Fuel_impl_Fuel__impl_tanksRight_1_ann n Try.f266 (sg 266) [vA T 71 s0, .fn 250 []] slices_IndexFunc_impl_Fuel_impl_Fuel__impl_tanksRight_1_dec = slices_IndexFunc_impl_Fuel_impl_Fuel__impl_tanksRight_1 n s0 := by kernel_rfl
theorem slices_IndexFunc_impl_Fuel_impl_Fuel__impl_tanksRight_1_lo (n : Nat) : LoopsOk (T := T) (Phi n 13) (slices_IndexFunc_impl_Fuel_impl_Fuel__impl_tanksRight_1_Ls n) slices_IndexFunc_impl_Fuel_impl_Fuel__impl_tanksRight_1_ann n slices_IndexFunc_impl_Fuel_impl_Fuel__impl_tanksRight_1_code := loopsOk_all (cs := [slices_IndexFunc_impl_Fuel_impl_Fuel__impl_tanksRight_1_2_c]) (by kernel_rfl) ⟨⟨_, by kernel_rfl, slices_IndexFunc_impl_Fuel_impl_Fuel__impl_tanksRight_1_2_le n⟩, trivial⟩
theorem slices_IndexFunc_impl_Fuel_impl_Fuel__impl_tanksRight_1_ok (n : Nat) : EntOk Try.prog (ents n) (slices_IndexFunc_impl_Fuel_impl_Fuel__impl_tanksRight_1_ent n) := by
  intro hs ar y hg h
  replace h : slices_IndexFunc_impl_Fuel_impl_Fuel__impl_tanksRight_1_D n ar = some y := h
  unfold slices_IndexFunc_impl_Fuel_impl_Fuel__impl_tanksRight_1_D at h
  split at h
  · obtain ⟨s0, qh0, h⟩ := Option.bind_eq_some_iff.1 h
    rw [argV_eq ok qh0] at hg ⊢
    cases (show [_] = [250] from natsEq_eq hg)
    exact call_of (phiE_nat _ _) hs ok mixed Try.func266 (c := slices_IndexFunc_impl_Fuel_impl_Fuel__impl_tanksRight_1_code) (by kernel_rfl) (slices_IndexFunc_impl_Fuel_impl_Fuel__impl_tanksRight_1_lo n) (by kernel_rfl) (by kernel_rfl) (by kernel_rfl) slices_IndexFunc_impl_Fuel_impl_Fuel__impl_tanksRight_1_de ((slices_IndexFunc_impl_Fuel_impl_Fuel__impl_tanksRight_1_tie n s0).trans h)
  · cases h
noncomputable def slices_ContainsFunc_impl_Fuel_impl_Fuel__impl_tanksRight_1_code : Code := match Try.f249.body with | some c => c | none => .skip
def slices_ContainsFunc_impl_Fuel_impl_Fuel__impl_tanksRight_1_ann : Ann := fun id => none
def slices_ContainsFunc_impl_Fuel_impl_Fuel__impl_tanksRight_1_Ls (n : Nat) : Nat → Option (LSpec T) := fun id => none
theorem slices_ContainsFunc_impl_Fuel_impl_Fuel__impl_tanksRight_1_tie (n : Nat) (s0 : List SFuel) : evF (T := T) (Phi n 14) (slices_ContainsFunc_impl_Fuel_impl_Fuel__impl_tanksRight_1_Ls n) slices_ContainsFunc_impl_Fuel_impl_Fuel__impl_tanksRight_1_ann n Try.f249 (sg 249) [vA T 71 s0, .fn 250 []] slices_ContainsFunc_impl_Fuel_impl_Fuel__impl_tanksRight_1_dec = slices_ContainsFunc_impl_Fuel_impl_Fuel__impl_tanksRight_1 n s0 := by kernel_rfl
theorem slices_ContainsFunc_impl_Fuel_impl_Fuel__impl_tanksRight_1_lo (n : Nat) : LoopsOk (T := T) (Phi n 14) (slices_ContainsFunc_impl_Fuel_impl_Fuel__impl_tanksRight_1_Ls n) slices_ContainsFunc_impl_Fuel_impl_Fuel__impl_tanksRight_1_ann n slices_ContainsFunc_impl_Fuel_impl_Fuel__impl_tanksRight_1_code := loopsOk_all (cs := []) (by kernel_rfl) trivial
theorem slices_ContainsFunc_impl_Fuel_impl_Fuel__impl_tanksRight_1_ok (n : Nat) : EntOk Try.prog (ents n) (slices_ContainsFunc_impl_Fuel_impl_Fuel__impl_tanksRight_1_ent n) := by
  intro hs ar y hg h
  replace h : slices_ContainsFunc_impl_Fuel_impl_Fuel__impl_tanksRight_1_D n ar = some y := h
  unfold slices_ContainsFunc_impl_Fuel_impl_Fuel__impl_tanksRight_1_D at h
  split at h
  · obtain ⟨s0, qh0, h⟩ := Option.bind_eq_some_iff.1 h
    rw [argV_eq ok qh0] at hg ⊢
    cases (show [_] = [250] from natsEq_eq hg)
    exact call_of (phiE_nat _ _) hs ok mixed Try.func249 (c := slices_ContainsFunc_impl_Fuel_impl_Fuel__impl_tanksRight_1_code) (by kernel_rfl) (slices_ContainsFunc_impl_Fuel_impl_Fuel__impl_tanksRight_1_lo n) (by kernel_rfl) (by kernel_rfl) (by kernel_rfl) slices_ContainsFunc_impl_Fuel_impl_Fuel__impl_tanksRight_1_de ((slices_ContainsFunc_impl_Fuel_impl_Fuel__impl_tanksRight_1_tie n s0).trans h)
  · cases h
noncomputable def impl_tanksRight_code : Code := match Try.f220.body with | some c => c | none => .skip
def impl_tanksRight_ann : Ann := fun id => none
def impl_tanksRight_Ls (n : Nat) : Nat → Option (LSpec T) := fun id => none
theorem impl_tanksRight_tie (n : Nat) (tanks0 : List SFuel) : evF (T := T) (Phi n 15) (impl_tanksRight_Ls n) impl_tanksRight_ann n Try.f220 (sg 220) [vA T 71 tanks0] impl_tanksRight_dec = impl_tanksRight n tanks0 := by kernel_rfl
theorem impl_tanksRight_lo (n : Nat) : LoopsOk (T := T) (Phi n 15) (impl_tanksRight_Ls n) impl_tanksRight_ann n impl_tanksRight_code := loopsOk_all (cs := []) (by kernel_rfl) trivial
theorem impl_tanksRight_ok (n : Nat) : EntOk Try.prog (ents n) (impl_tanksRight_ent n) := by
  intro hs ar y hg h
  replace h : impl_tanksRight_D n ar = some y := h
  unfold impl_tanksRight_D at h
  split at h
  · obtain ⟨tanks0, qh0, h⟩ := Option.bind_eq_some_iff.1 h
    rw [argV_eq ok qh0]
    exact call_of (phiE_nat _ _) hs ok mixed Try.func220 (c := impl_tanksRight_code) (by kernel_rfl) (impl_tanksRight_lo n) (by kernel_rfl) (by kernel_rfl) (by kernel_rfl) impl_tanksRight_de ((impl_tanksRight_tie n tanks0).trans h)
  · cases h
noncomputable def impl_Pumped_code : Code := match Try.f138.body with | some c => c | none => .skip
def impl_Pumped_ann : Ann := fun id => none
def impl_Pumped_Ls (n : Nat) : Nat → Option (LSpec T) := fun id => none
theorem impl_Pumped_tie (n : Nat) (tanks0 : List SFuel) (p1 : SPump) : evF (T := T) (Phi n 16) (impl_Pumped_Ls n) impl_Pumped_ann n Try.f138 (sg 138) [vA T 71 tanks0, vA T 185 p1] impl_Pumped_dec = impl_Pumped n tanks0 p1 := by kernel_rfl
theorem impl_Pumped_lo (n : Nat) : LoopsOk (T := T) (Phi n 16) (impl_Pumped_Ls n) impl_Pumped_ann n impl_Pumped_code := loopsOk_all (cs := []) (by kernel_rfl) trivial
theorem impl_Pumped_ok (n : Nat) : EntOk Try.prog (ents n) (impl_Pumped_ent n) := by
  intro hs ar y hg h
  replace h : impl_Pumped_D n ar = some y := h
  unfold impl_Pumped_D at h
  split at h
  · obtain ⟨tanks0, qh0, h⟩ := Option.bind_eq_some_iff.1 h
    obtain ⟨p1, qh1, h⟩ := Option.bind_eq_some_iff.1 h
    rw [argV_eq ok qh0, argV_eq ok qh1]
    exact call_of (phiE_nat _ _) hs ok mixed Try.func138 (c := impl_Pumped_code) (by kernel_rfl) (impl_Pumped_lo n) (by kernel_rfl) (by kernel_rfl) (by kernel_rfl) impl_Pumped_de ((impl_Pumped_tie n tanks0 p1).trans h)
  · cases h
noncomputable def impl_own_int_code : Code := match Try.f106.body with | some c => c | none => .skip
def impl_own_int_ann : Ann := fun id => none
def impl_own_int_Ls (n : Nat) : Nat → Option (LSpec T) := fun id => none
theorem impl_own_int_tie (n : Nat) (l0 : List Int) : evF (T := T) (Phi n 17) (impl_own_int_Ls n) impl_own_int_ann n Try.f106 (sg 106) [vA T 24 l0] impl_own_int_dec = impl_own_int n l0 := by kernel_rfl
theorem impl_own_int_lo (n : Nat) : LoopsOk (T := T) (Phi n 17) (impl_own_int_Ls n) impl_own_int_ann n impl_own_int_code := loopsOk_all (cs := []) (by kernel_rfl) trivial
theorem impl_own_int_ok (n : Nat) : EntOk Try.prog (ents n) (impl_own_int_ent n) := by
  intro hs ar y hg h
  replace h : impl_own_int_D n ar = some y := h
  unfold impl_own_int_D at h
  split at h
  · obtain ⟨l0, qh0, h⟩ := Option.bind_eq_some_iff.1 h
    rw [argV_eq ok qh0]
    exact call_of (phiE_nat _ _) hs ok mixed Try.func106 (c := impl_own_int_code) (by kernel_rfl) (impl_own_int_lo n) (by kernel_rfl) (by kernel_rfl) (by kernel_rfl) impl_own_int_de ((impl_own_int_tie n l0).trans h)
  · cases h
noncomputable def impl_PumpAll_code : Code := match Try.f53.body with | some c => c | none => .skip
def impl_PumpAll_7_sv : List Sv := [.one (.own 3000000 187 false), .one (.own 3000001 3 false), .one (.int .i64), .one (.int .i64), .one (.arr 185), .one (.int .i64), .one (.int .i64)]
def impl_PumpAll_7_so : List So := [.arr 187 false, .arr 3 false]
def impl_PumpAll_7_emb (c : List SPump × Int) (x : Int × Int × Int × List SFuel × List Int) : EVs T impl_PumpAll_7_sv × EOs T impl_PumpAll_7_so := (((), (), x.1, x.2.1, c.1, c.2, x.2.2.1, ()), (x.2.2.2.1, x.2.2.2.2, ()))
def impl_PumpAll_7_prj (y : EVs T impl_PumpAll_7_sv × EOs T impl_PumpAll_7_so) : (List SPump × Int) × (Int × Int × Int × List SFuel × List Int) := ((y.1.2.2.2.2.1, y.1.2.2.2.2.2.1), (y.1.2.2.1, y.1.2.2.2.1, y.1.2.2.2.2.2.2.1, y.2.1, y.2.2.1))
def impl_PumpAll_7_b (n : Nat) {R : Type} (K : Ex → Sm.St T → Option R) (c : List SPump × Int) (x : Int × Int × Int × List SFuel × List Int) (J : (Int × Int × Int × List SFuel × List Int) → Option R) : Option R :=
  impl_PumpAll_L7 n (fun (y0 : Int) (y1 : Int) (y2 : List SFuel) (y3 : List Int) => K (.exit 0) (stOf (T := T) [8, 9, 10, 11] [3000000, 3000001] [.one (.own 3000000 187 false), .one (.own 3000001 3 false), .one (.int .i64), .one (.int .i64)] [.arr 187 false, .arr 3 false] ((), (), y0, y1, ()) (y2, y3, ()))) (fun z0 z1 z2 z3 z4 => J (z0, z1, z2, z3, z4)) x.1 x.2.1 c.1 c.2 x.2.2.1 x.2.2.2.1 x.2.2.2.2
def impl_PumpAll_7_sp (n : Nat) : LSpec T := mkSpec T ⟨[((.reg 8), 3000000, 187), ((.reg 9), 3000001, 3)], [8, 9, 10, 11, 21, 22, 23], [3000000, 3000001]⟩ impl_PumpAll_7_sv impl_PumpAll_7_so (List SPump × Int) (Int × Int × Int × List SFuel × List Int) impl_PumpAll_7_emb impl_PumpAll_7_prj (impl_PumpAll_7_b n)
noncomputable def impl_PumpAll_7_c : Code := ((loopCodes impl_PumpAll_code)[0]?).getD .skip
def impl_PumpAll_ann : Ann := fun id => bif Nat.beq id 3000007 then some ⟨[((.reg 8), 3000000, 187), ((.reg 9), 3000001, 3)], [8, 9, 10, 11], [3000000, 3000001]⟩ else none
def impl_PumpAll_Ls (n : Nat) : Nat → Option (LSpec T) := fun id => bif Nat.beq id 7 then some (impl_PumpAll_7_sp n) else none
theorem impl_PumpAll_7_le (n : Nat) : LoopEq (T := T) (Phi n 18) (impl_PumpAll_Ls n) impl_PumpAll_ann n impl_PumpAll_7_c (impl_PumpAll_7_sp n) := ⟨mkSpec_dec (fun y => rfl), fun c x => by kernel_rfl, fun K J c x => by kernel_rfl⟩
theorem impl_PumpAll_tie (n : Nat) (tanks0 : List SFuel) (pumps1 : List SPump) : evF (T := T) (Phi n 18) (impl_PumpAll_Ls n) impl_PumpAll_ann n Try.f53 (sg 53) [vA T 71 tanks0, vA T 75 pumps1] impl_PumpAll_dec = impl_PumpAll n tanks0 pumps1 := by kernel_rfl
theorem impl_PumpAll_lo (n : Nat) : LoopsOk (T := T) (Phi n 18) (impl_PumpAll_Ls n) impl_PumpAll_ann n impl_PumpAll_code := loopsOk_all (cs := [impl_PumpAll_7_c]) (by kernel_rfl) ⟨⟨_, by kernel_rfl, impl_PumpAll_7_le n⟩, trivial⟩
theorem impl_PumpAll_ok (n : Nat) : EntOk Try.prog (ents n) (impl_PumpAll_ent n) := by
  intro hs ar y hg h
  replace h : impl_PumpAll_D n ar = some y := h
  unfold impl_PumpAll_D at h
  split at h
  · obtain ⟨tanks0, qh0, h⟩ := Option.bind_eq_some_iff.1 h
    obtain ⟨pumps1, qh1, h⟩ := Option.bind_eq_some_iff.1 h
    rw [argV_eq ok qh0, argV_eq ok qh1]
    exact call_of (phiE_nat _ _) hs ok mixed Try.func53 (c := impl_PumpAll_code) (by kernel_rfl) (impl_PumpAll_lo n) (by kernel_rfl) (by kernel_rfl) (by kernel_rfl) impl_PumpAll_de ((impl_PumpAll_tie n tanks0 pumps1).trans h)
  · cases h
noncomputable def laws_eqFuel_code : Code := match Try.f139.body with | some c => c | none => .skip
def laws_eqFuel_ann : Ann := fun id => none
def laws_eqFuel_Ls (n : Nat) : Nat → Option (LSpec T) := fun id => none
theorem laws_eqFuel_tie (n : Nat) (a0 : SFuel) (b1 : SFuel) : evF (T := T) (Phi n 19) (laws_eqFuel_Ls n) laws_eqFuel_ann n Try.f139 (sg 139) [vA T 187 a0, vA T 187 b1] laws_eqFuel_dec = laws_eqFuel n a0 b1 := by kernel_rfl
theorem laws_eqFuel_lo (n : Nat) : LoopsOk (T := T) (Phi n 19) (laws_eqFuel_Ls n) laws_eqFuel_ann n laws_eqFuel_code := loopsOk_all (cs := []) (by kernel_rfl) trivial
theorem laws_eqFuel_ok (n : Nat) : EntOk Try.prog (ents n) (laws_eqFuel_ent n) := by
  intro hs ar y hg h
  replace h : laws_eqFuel_D n ar = some y := h
  unfold laws_eqFuel_D at h
  split at h
  · obtain ⟨a0, qh0, h⟩ := Option.bind_eq_some_iff.1 h
    obtain ⟨b1, qh1, h⟩ := Option.bind_eq_some_iff.1 h
    rw [argV_eq ok qh0, argV_eq ok qh1]
    exact call_of (phiE_nat _ _) hs ok mixed Try.func139 (c := laws_eqFuel_code) (by kernel_rfl) (laws_eqFuel_lo n) (by kernel_rfl) (by kernel_rfl) (by kernel_rfl) laws_eqFuel_de ((laws_eqFuel_tie n a0 b1).trans h)
  · cases h
noncomputable def laws_eqFuelS_code : Code := match Try.f54.body with | some c => c | none => .skip
def laws_eqFuelS_4_sv : List Sv := [.one (.arr 187), .one (.arr 187), .one (.int .i64)]
def laws_eqFuelS_4_so : List So := []
def laws_eqFuelS_4_emb (c : List SFuel × List SFuel) (x : Int) : EVs T laws_eqFuelS_4_sv × EOs T laws_eqFuelS_4_so := ((c.1, c.2, x, ()), ())
def laws_eqFuelS_4_prj (y : EVs T laws_eqFuelS_4_sv × EOs T laws_eqFuelS_4_so) : (List SFuel × List SFuel) × Int := ((y.1.1, y.1.2.1), (y.1.2.2.1))
def laws_eqFuelS_4_b (n : Nat) {R : Type} (K : Ex → Sm.St T → Option R) (c : List SFuel × List SFuel) (x : Int) (J : Int → Option R) : Option R :=
  laws_eqFuelS_L4 n (K (.exit 0) (stOf (T := T) [] [] [] [] () ())) (fun (y0 : Bool) => K .ret (stOf (T := T) [4] [] [.one (.bool)] [] (y0, ()) ())) J c.1 c.2 x
def laws_eqFuelS_4_sp (n : Nat) : LSpec T := mkSpec T ⟨[], [0, 1, 5], []⟩ laws_eqFuelS_4_sv laws_eqFuelS_4_so (List SFuel × List SFuel) (Int) laws_eqFuelS_4_emb laws_eqFuelS_4_prj (laws_eqFuelS_4_b n)
noncomputable def laws_eqFuelS_4_c : Code := ((loopCodes laws_eqFuelS_code)[0]?).getD .skip
def laws_eqFuelS_ann : Ann := fun id => bif Nat.beq id 3000004 then some ⟨[], [], []⟩ else bif Nat.beq id 2000004 then some ⟨[], [4], []⟩ else none
def laws_eqFuelS_Ls (n : Nat) : Nat → Option (LSpec T) := fun id => bif Nat.beq id 4 then some (laws_eqFuelS_4_sp n) else none
theorem laws_eqFuelS_4_le (n : Nat) : LoopEq (T := T) (Phi n 20) (laws_eqFuelS_Ls n) laws_eqFuelS_ann n laws_eqFuelS_4_c (laws_eqFuelS_4_sp n) := ⟨mkSpec_dec (fun y => rfl), fun c x => by kernel_rfl, fun K J c x => by kernel_rfl⟩
theorem laws_eqFuelS_tie (n : Nat) (a0 : List SFuel) (b1 : List SFuel) : evF (T := T) (Phi n 20) (laws_eqFuelS_Ls n) laws_eqFuelS_ann n Try.f54 (sg 54) [vA T 71 a0, vA T 71 b1] laws_eqFuelS_dec = laws_eqFuelS n a0 b1 := by kernel_rfl
theorem laws_eqFuelS_lo (n : Nat) : LoopsOk (T := T) (Phi n 20) (laws_eqFuelS_Ls n) laws_eqFuelS_ann n laws_eqFuelS_code := loopsOk_all (cs := [laws_eqFuelS_4_c]) (by kernel_rfl) ⟨⟨_, by kernel_rfl, laws_eqFuelS_4_le n⟩, trivial⟩
theorem laws_eqFuelS_ok (n : Nat) : EntOk Try.prog (ents n) (laws_eqFuelS_ent n) := by
  intro hs ar y hg h
  replace h : laws_eqFuelS_D n ar = some y := h
  unfold laws_eqFuelS_D at h
  split at h
  · obtain ⟨a0, qh0, h⟩ := Option.bind_eq_some_iff.1 h
    obtain ⟨b1, qh1, h⟩ := Option.bind_eq_some_iff.1 h
    rw [argV_eq ok qh0, argV_eq ok qh1]
    exact call_of (phiE_nat _ _) hs ok mixed Try.func54 (c := laws_eqFuelS_code) (by kernel_rfl) (laws_eqFuelS_lo n) (by kernel_rfl) (by kernel_rfl) (by kernel_rfl) laws_eqFuelS_de ((laws_eqFuelS_tie n a0 b1).trans h)
  · cases h
noncomputable def laws_eqIntS_code : Code := match Try.f19.body with | some c => c | none => .skip
def laws_eqIntS_4_sv : List Sv := [.one (.arr 3), .one (.arr 3), .one (.int .i64)]
def laws_eqIntS_4_so : List So := []
def laws_eqIntS_4_emb (c : List Int × List Int) (x : Int) : EVs T laws_eqIntS_4_sv × EOs T laws_eqIntS_4_so := ((c.1, c.2, x, ()), ())
def laws_eqIntS_4_prj (y : EVs T laws_eqIntS_4_sv × EOs T laws_eqIntS_4_so) : (List Int × List Int) × Int := ((y.1.1, y.1.2.1), (y.1.2.2.1))
def laws_eqIntS_4_b (n : Nat) {R : Type} (K : Ex → Sm.St T → Option R) (c : List Int × List Int) (x : Int) (J : Int → Option R) : Option R :=
  laws_eqIntS_L4 n (K (.exit 0) (stOf (T := T) [] [] [] [] () ())) (fun (y0 : Bool) => K .ret (stOf (T := T) [4] [] [.one (.bool)] [] (y0, ()) ())) J c.1 c.2 x
def laws_eqIntS_4_sp (n : Nat) : LSpec T := mkSpec T ⟨[], [0, 1, 5], []⟩ laws_eqIntS_4_sv laws_eqIntS_4_so (List Int × List Int) (Int) laws_eqIntS_4_emb laws_eqIntS_4_prj (laws_eqIntS_4_b n)
noncomputable def laws_eqIntS_4_c : Code := ((loopCodes laws_eqIntS_code)[0]?).getD .skip
def laws_eqIntS_ann : Ann := fun id => bif Nat.beq id 3000004 then some ⟨[], [], []⟩ else bif Nat.beq id 2000004 then some ⟨[], [4], []⟩ else none
def laws_eqIntS_Ls (n : Nat) : Nat → Option (LSpec T) := fun id => bif Nat.beq id 4 then some (laws_eqIntS_4_sp n) else none
theorem laws_eqIntS_4_le (n : Nat) : LoopEq (T := T) (Phi n 21) (laws_eqIntS_Ls n) laws_eqIntS_ann n laws_eqIntS_4_c (laws_eqIntS_4_sp n) := ⟨mkSpec_dec (fun y => rfl), fun c x => by kernel_rfl, fun K J c x => by kernel_rfl⟩
theorem laws_eqIntS_tie (n : Nat) (a0 : List Int) (b1 : List Int) : evF (T := T) (Phi n 21) (laws_eqIntS_Ls n) laws_eqIntS_ann n Try.f19 (sg 19) [vA T 24 a0, vA T 24 b1] laws_eqIntS_dec = laws_eqIntS n a0 b1 := by kernel_rfl
theorem laws_eqIntS_lo (n : Nat) : LoopsOk (T := T) (Phi n 21) (laws_eqIntS_Ls n) laws_eqIntS_ann n laws_eqIntS_code := loopsOk_all (cs := [laws_eqIntS_4_c]) (by kernel_rfl) ⟨⟨_, by kernel_rfl, laws_eqIntS_4_le n⟩, trivial⟩
theorem laws_eqIntS_ok (n : Nat) : EntOk Try.prog (ents n) (laws_eqIntS_ent n) := by
  intro hs ar y hg h
  replace h : laws_eqIntS_D n ar = some y := h
  unfold laws_eqIntS_D at h
  split at h
  · obtain ⟨a0, qh0, h⟩ := Option.bind_eq_some_iff.1 h
    obtain ⟨b1, qh1, h⟩ := Option.bind_eq_some_iff.1 h
    rw [argV_eq ok qh0, argV_eq ok qh1]
    exact call_of (phiE_nat _ _) hs ok mixed Try.func19 (c := laws_eqIntS_code) (by kernel_rfl) (laws_eqIntS_lo n) (by kernel_rfl) (by kernel_rfl) (by kernel_rfl) laws_eqIntS_de ((laws_eqIntS_tie n a0 b1).trans h)
  · cases h
noncomputable def laws_eqPump_code : Code := match Try.f140.body with | some c => c | none => .skip
def laws_eqPump_ann : Ann := fun id => none
def laws_eqPump_Ls (n : Nat) : Nat → Option (LSpec T) := fun id => none
theorem laws_eqPump_tie (n : Nat) (a0 : SPump) (b1 : SPump) : evF (T := T) (Phi n 22) (laws_eqPump_Ls n) laws_eqPump_ann n Try.f140 (sg 140) [vA T 185 a0, vA T 185 b1] laws_eqPump_dec = laws_eqPump n a0 b1 := by kernel_rfl
theorem laws_eqPump_lo (n : Nat) : LoopsOk (T := T) (Phi n 22) (laws_eqPump_Ls n) laws_eqPump_ann n laws_eqPump_code := loopsOk_all (cs := []) (by kernel_rfl) trivial
theorem laws_eqPump_ok (n : Nat) : EntOk Try.prog (ents n) (laws_eqPump_ent n) := by
  intro hs ar y hg h
  replace h : laws_eqPump_D n ar = some y := h
  unfold laws_eqPump_D at h
  split at h
  · obtain ⟨a0, qh0, h⟩ := Option.bind_eq_some_iff.1 h
    obtain ⟨b1, qh1, h⟩ := Option.bind_eq_some_iff.1 h
    rw [argV_eq ok qh0, argV_eq ok qh1]
    exact call_of (phiE_nat _ _) hs ok mixed Try.func140 (c := laws_eqPump_code) (by kernel_rfl) (laws_eqPump_lo n) (by kernel_rfl) (by kernel_rfl) (by kernel_rfl) laws_eqPump_de ((laws_eqPump_tie n a0 b1).trans h)
  · cases h
noncomputable def laws_eqPumpS_code : Code := match Try.f55.body with | some c => c | none => .skip
def laws_eqPumpS_4_sv : List Sv := [.one (.arr 185), .one (.arr 185), .one (.int .i64)]
def laws_eqPumpS_4_so : List So := []
def laws_eqPumpS_4_emb (c : List SPump × List SPump) (x : Int) : EVs T laws_eqPumpS_4_sv × EOs T laws_eqPumpS_4_so := ((c.1, c.2, x, ()), ())
def laws_eqPumpS_4_prj (y : EVs T laws_eqPumpS_4_sv × EOs T laws_eqPumpS_4_so) : (List SPump × List SPump) × Int := ((y.1.1, y.1.2.1), (y.1.2.2.1))
def laws_eqPumpS_4_b (n : Nat) {R : Type} (K : Ex → Sm.St T → Option R) (c : List SPump × List SPump) (x : Int) (J : Int → Option R) : Option R :=
  laws_eqPumpS_L4 n (K (.exit 0) (stOf (T := T) [] [] [] [] () ())) (fun (y0 : Bool) => K .ret (stOf (T := T) [4] [] [.one (.bool)] [] (y0, ()) ())) J c.1 c.2 x
def laws_eqPumpS_4_sp (n : Nat) : LSpec T := mkSpec T ⟨[], [0, 1, 5], []⟩ laws_eqPumpS_4_sv laws_eqPumpS_4_so (List SPump × List SPump) (Int) laws_eqPumpS_4_emb laws_eqPumpS_4_prj (laws_eqPumpS_4_b n)
noncomputable def laws_eqPumpS_4_c : Code := ((loopCodes laws_eqPumpS_code)[0]?).getD .skip
def laws_eqPumpS_ann : Ann := fun id => bif Nat.beq id 3000004 then some ⟨[], [], []⟩ else bif Nat.beq id 2000004 then some ⟨[], [4], []⟩ else none
def laws_eqPumpS_Ls (n : Nat) : Nat → Option (LSpec T) := fun id => bif Nat.beq id 4 then some (laws_eqPumpS_4_sp n) else none
theorem laws_eqPumpS_4_le (n : Nat) : LoopEq (T := T) (Phi n 23) (laws_eqPumpS_Ls n) laws_eqPumpS_ann n laws_eqPumpS_4_c (laws_eqPumpS_4_sp n) := ⟨mkSpec_dec (fun y => rfl), fun c x => by kernel_rfl, fun K J c x => by kernel_rfl⟩
theorem laws_eqPumpS_tie (n : Nat) (a0 : List SPump) (b1 : List SPump) : evF (T := T) (Phi n 23) (laws_eqPumpS_Ls n) laws_eqPumpS_ann n Try.f55 (sg 55) [vA T 75 a0, vA T 75 b1] laws_eqPumpS_dec = laws_eqPumpS n a0 b1 := by kernel_rfl
theorem laws_eqPumpS_lo (n : Nat) : LoopsOk (T := T) (Phi n 23) (laws_eqPumpS_Ls n) laws_eqPumpS_ann n laws_eqPumpS_code := loopsOk_all (cs := [laws_eqPumpS_4_c]) (by kernel_rfl) ⟨⟨_, by kernel_rfl, laws_eqPumpS_4_le n⟩, trivial⟩
theorem laws_eqPumpS_ok (n : Nat) : EntOk Try.prog (ents n) (laws_eqPumpS_ent n) := by
  intro hs ar y hg h
  replace h : laws_eqPumpS_D n ar = some y := h
  unfold laws_eqPumpS_D at h
  split at h
  · obtain ⟨a0, qh0, h⟩ := Option.bind_eq_some_iff.1 h
    obtain ⟨b1, qh1, h⟩ := Option.bind_eq_some_iff.1 h
    rw [argV_eq ok qh0, argV_eq ok qh1]
    exact call_of (phiE_nat _ _) hs ok mixed Try.func55 (c := laws_eqPumpS_code) (by kernel_rfl) (laws_eqPumpS_lo n) (by kernel_rfl) (by kernel_rfl) (by kernel_rfl) laws_eqPumpS_de ((laws_eqPumpS_tie n a0 b1).trans h)
  · cases h
noncomputable def laws_markFuelS_code : Code := match Try.f56.body with | some c => c | none => .skip
def laws_markFuelS_2_sv : List Sv := [.one (.own 4503599627370496 187 false), .one (.int .i64), .one (.int .i64)]
def laws_markFuelS_2_so : List So := [.arr 187 true]
def laws_markFuelS_2_emb (c : Unit) (x : Int × Int × List SFuel) : EVs T laws_markFuelS_2_sv × EOs T laws_markFuelS_2_so := (((), x.1, x.2.1, ()), (x.2.2, ()))
def laws_markFuelS_2_prj (y : EVs T laws_markFuelS_2_sv × EOs T laws_markFuelS_2_so) : Unit × (Int × Int × List SFuel) := ((), (y.1.2.1, y.1.2.2.1, y.2.1))
def laws_markFuelS_2_b (n : Nat) {R : Type} (K : Ex → Sm.St T → Option R) (c : Unit) (x : Int × Int × List SFuel) (J : (Int × Int × List SFuel) → Option R) : Option R :=
  laws_markFuelS_L2 n (fun (y0 : Int) (y1 : List SFuel) => K (.exit 0) (stOf (T := T) [1] [4503599627370496] [.one (.int .i64)] [.arr 187 true] (y0, ()) (y1, ()))) (fun z0 z1 z2 => J (z0, z1, z2)) x.1 x.2.1 x.2.2
def laws_markFuelS_2_sp (n : Nat) : LSpec T := mkSpec T ⟨[], [0, 1, 5], [4503599627370496]⟩ laws_markFuelS_2_sv laws_markFuelS_2_so (Unit) (Int × Int × List SFuel) laws_markFuelS_2_emb laws_markFuelS_2_prj (laws_markFuelS_2_b n)
noncomputable def laws_markFuelS_2_c : Code := ((loopCodes laws_markFuelS_code)[0]?).getD .skip
def laws_markFuelS_ann : Ann := fun id => bif Nat.beq id 3000002 then some ⟨[], [1], [4503599627370496]⟩ else none
def laws_markFuelS_Ls (n : Nat) : Nat → Option (LSpec T) := fun id => bif Nat.beq id 2 then some (laws_markFuelS_2_sp n) else none
theorem laws_markFuelS_2_le (n : Nat) : LoopEq (T := T) (Phi n 24) (laws_markFuelS_Ls n) laws_markFuelS_ann n laws_markFuelS_2_c (laws_markFuelS_2_sp n) := ⟨mkSpec_dec (fun y => rfl), fun c x => by kernel_rfl, fun K J c x => by kernel_rfl⟩
theorem laws_markFuelS_tie (n : Nat) (a0 : List SFuel) (k1 : Int) : evF (T := T) (Phi n 24) (laws_markFuelS_Ls n) laws_markFuelS_ann n Try.f56 (sg 56) [vA T 71 a0, vA T 3 k1] laws_markFuelS_dec = laws_markFuelS n a0 k1 := by kernel_rfl
theorem laws_markFuelS_lo (n : Nat) : LoopsOk (T := T) (Phi n 24) (laws_markFuelS_Ls n) laws_markFuelS_ann n laws_markFuelS_code := loopsOk_all (cs := [laws_markFuelS_2_c]) (by kernel_rfl) ⟨⟨_, by kernel_rfl, laws_markFuelS_2_le n⟩, trivial⟩
theorem laws_markFuelS_ok (n : Nat) : EntOk Try.prog (ents n) (laws_markFuelS_ent n) := by
  intro hs ar y hg h
  replace h : laws_markFuelS_D n ar = some y := h
  unfold laws_markFuelS_D at h
  split at h
  · obtain ⟨a0, qh0, h⟩ := Option.bind_eq_some_iff.1 h
    obtain ⟨k1, qh1, h⟩ := Option.bind_eq_some_iff.1 h
    rw [argV_eq ok qh0, argV_eq ok qh1]
    exact call_of (phiE_nat _ _) hs ok mixed Try.func56 (c := laws_markFuelS_code) (by kernel_rfl) (laws_markFuelS_lo n) (by kernel_rfl) (by kernel_rfl) (by kernel_rfl) laws_markFuelS_de ((laws_markFuelS_tie n a0 k1).trans h)
  · cases h
noncomputable def laws_markPumpS_code : Code := match Try.f57.body with | some c => c | none => .skip
def laws_markPumpS_2_sv : List Sv := [.one (.own 4503599627370496 185 false), .one (.int .i64), .one (.int .i64)]
def laws_markPumpS_2_so : List So := [.arr 185 true]
def laws_markPumpS_2_emb (c : Unit) (x : Int × Int × List SPump) : EVs T laws_markPumpS_2_sv × EOs T laws_markPumpS_2_so := (((), x.1, x.2.1, ()), (x.2.2, ()))
def laws_markPumpS_2_prj (y : EVs T laws_markPumpS_2_sv × EOs T laws_markPumpS_2_so) : Unit × (Int × Int × List SPump) := ((), (y.1.2.1, y.1.2.2.1, y.2.1))
def laws_markPumpS_2_b (n : Nat) {R : Type} (K : Ex → Sm.St T → Option R) (c : Unit) (x : Int × Int × List SPump) (J : (Int × Int × List SPump) → Option R) : Option R :=
  laws_markPumpS_L2 n (fun (y0 : Int) (y1 : List SPump) => K (.exit 0) (stOf (T := T) [1] [4503599627370496] [.one (.int .i64)] [.arr 185 true] (y0, ()) (y1, ()))) (fun z0 z1 z2 => J (z0, z1, z2)) x.1 x.2.1 x.2.2
def laws_markPumpS_2_sp (n : Nat) : LSpec T := mkSpec T ⟨[], [0, 1, 5], [4503599627370496]⟩ laws_markPumpS_2_sv laws_markPumpS_2_so (Unit) (Int × Int × List SPump) laws_markPumpS_2_emb laws_markPumpS_2_prj (laws_markPumpS_2_b n)
noncomputable def laws_markPumpS_2_c : Code := ((loopCodes laws_markPumpS_code)[0]?).getD .skip
def laws_markPumpS_ann : Ann := fun id => bif Nat.beq id 3000002 then some ⟨[], [1], [4503599627370496]⟩ else none
def laws_markPumpS_Ls (n : Nat) : Nat → Option (LSpec T) := fun id => bif Nat.beq id 2 then some (laws_markPumpS_2_sp n) else none
theorem laws_markPumpS_2_le (n : Nat) : LoopEq (T := T) (Phi n 25) (laws_markPumpS_Ls n) laws_markPumpS_ann n laws_markPumpS_2_c (laws_markPumpS_2_sp n) := ⟨mkSpec_dec (fun y => rfl), fun c x => by kernel_rfl, fun K J c x => by kernel_rfl⟩
theorem laws_markPumpS_tie (n : Nat) (a0 : List SPump) (k1 : Int) : evF (T := T) (Phi n 25) (laws_markPumpS_Ls n) laws_markPumpS_ann n Try.f57 (sg 57) [vA T 75 a0, vA T 3 k1] laws_markPumpS_dec = laws_markPumpS n a0 k1 := by kernel_rfl
theorem laws_markPumpS_lo (n : Nat) : LoopsOk (T := T) (Phi n 25) (laws_markPumpS_Ls n) laws_markPumpS_ann n laws_markPumpS_code := loopsOk_all (cs := [laws_markPumpS_2_c]) (by kernel_rfl) ⟨⟨_, by kernel_rfl, laws_markPumpS_2_le n⟩, trivial⟩
theorem laws_markPumpS_ok (n : Nat) : EntOk Try.prog (ents n) (laws_markPumpS_ent n) := by
  intro hs ar y hg h
  replace h : laws_markPumpS_D n ar = some y := h
  unfold laws_markPumpS_D at h
  split at h
  · obtain ⟨a0, qh0, h⟩ := Option.bind_eq_some_iff.1 h
    obtain ⟨k1, qh1, h⟩ := Option.bind_eq_some_iff.1 h
    rw [argV_eq ok qh0, argV_eq ok qh1]
    exact call_of (phiE_nat _ _) hs ok mixed Try.func57 (c := laws_markPumpS_code) (by kernel_rfl) (laws_markPumpS_lo n) (by kernel_rfl) (by kernel_rfl) (by kernel_rfl) laws_markPumpS_de ((laws_markPumpS_tie n a0 k1).trans h)
  · cases h
noncomputable def laws_markIntS_code : Code := match Try.f22.body with | some c => c | none => .skip
def laws_markIntS_2_sv : List Sv := [.one (.own 4503599627370496 3 false), .one (.int .i64), .one (.int .i64)]
def laws_markIntS_2_so : List So := [.arr 3 true]
def laws_markIntS_2_emb (c : Unit) (x : Int × Int × List Int) : EVs T laws_markIntS_2_sv × EOs T laws_markIntS_2_so := (((), x.1, x.2.1, ()), (x.2.2, ()))
def laws_markIntS_2_prj (y : EVs T laws_markIntS_2_sv × EOs T laws_markIntS_2_so) : Unit × (Int × Int × List Int) := ((), (y.1.2.1, y.1.2.2.1, y.2.1))
def laws_markIntS_2_b (n : Nat) {R : Type} (K : Ex → Sm.St T → Option R) (c : Unit) (x : Int × Int × List Int) (J : (Int × Int × List Int) → Option R) : Option R :=
  laws_markIntS_L2 n (fun (y0 : Int) (y1 : List Int) => K (.exit 0) (stOf (T := T) [1] [4503599627370496] [.one (.int .i64)] [.arr 3 true] (y0, ()) (y1, ()))) (fun z0 z1 z2 => J (z0, z1, z2)) x.1 x.2.1 x.2.2
def laws_markIntS_2_sp (n : Nat) : LSpec T := mkSpec T ⟨[], [0, 1, 5], [4503599627370496]⟩ laws_markIntS_2_sv laws_markIntS_2_so (Unit) (Int × Int × List Int) laws_markIntS_2_emb laws_markIntS_2_prj (laws_markIntS_2_b n)
noncomputable def laws_markIntS_2_c : Code := ((loopCodes laws_markIntS_code)[0]?).getD .skip
def laws_markIntS_ann : Ann := fun id => bif Nat.beq id 3000002 then some ⟨[], [1], [4503599627370496]⟩ else none
def laws_markIntS_Ls (n : Nat) : Nat → Option (LSpec T) := fun id => bif Nat.beq id 2 then some (laws_markIntS_2_sp n) else none
theorem laws_markIntS_2_le (n : Nat) : LoopEq (T := T) (Phi n 26) (laws_markIntS_Ls n) laws_markIntS_ann n laws_markIntS_2_c (laws_markIntS_2_sp n) := ⟨mkSpec_dec (fun y => rfl), fun c x => by kernel_rfl, fun K J c x => by kernel_rfl⟩
theorem laws_markIntS_tie (n : Nat) (a0 : List Int) (k1 : Int) : evF (T := T) (Phi n 26) (laws_markIntS_Ls n) laws_markIntS_ann n Try.f22 (sg 22) [vA T 24 a0, vA T 3 k1] laws_markIntS_dec = laws_markIntS n a0 k1 := by kernel_rfl
theorem laws_markIntS_lo (n : Nat) : LoopsOk (T := T) (Phi n 26) (laws_markIntS_Ls n) laws_markIntS_ann n laws_markIntS_code := loopsOk_all (cs := [laws_markIntS_2_c]) (by kernel_rfl) ⟨⟨_, by kernel_rfl, laws_markIntS_2_le n⟩, trivial⟩
theorem laws_markIntS_ok (n : Nat) : EntOk Try.prog (ents n) (laws_markIntS_ent n) := by
  intro hs ar y hg h
  replace h : laws_markIntS_D n ar = some y := h
  unfold laws_markIntS_D at h
  split at h
  · obtain ⟨a0, qh0, h⟩ := Option.bind_eq_some_iff.1 h
    obtain ⟨k1, qh1, h⟩ := Option.bind_eq_some_iff.1 h
    rw [argV_eq ok qh0, argV_eq ok qh1]
    exact call_of (phiE_nat _ _) hs ok mixed Try.func22 (c := laws_markIntS_code) (by kernel_rfl) (laws_markIntS_lo n) (by kernel_rfl) (by kernel_rfl) (by kernel_rfl) laws_markIntS_de ((laws_markIntS_tie n a0 k1).trans h)
  · cases h
noncomputable def laws_heldFuelS_code : Code := match Try.f58.body with | some c => c | none => .skip
def laws_heldFuelS_2_sv : List Sv := [.one (.arr 187), .one (.int .i64), .one (.int .i64)]
def laws_heldFuelS_2_so : List So := []
def laws_heldFuelS_2_emb (c : List SFuel) (x : Int × Int) : EVs T laws_heldFuelS_2_sv × EOs T laws_heldFuelS_2_so := ((c, x.1, x.2, ()), ())
def laws_heldFuelS_2_prj (y : EVs T laws_heldFuelS_2_sv × EOs T laws_heldFuelS_2_so) : List SFuel × (Int × Int) := ((y.1.1), (y.1.2.1, y.1.2.2.1))
def laws_heldFuelS_2_b (n : Nat) {R : Type} (K : Ex → Sm.St T → Option R) (c : List SFuel) (x : Int × Int) (J : (Int × Int) → Option R) : Option R :=
  laws_heldFuelS_L2 n (fun (y0 : Int) => K (.exit 0) (stOf (T := T) [1] [] [.one (.int .i64)] [] (y0, ()) ())) (fun (y0 : Int) => K .ret (stOf (T := T) [4] [] [.one (.int .i64)] [] (y0, ()) ())) (fun z0 z1 => J (z0, z1)) c x.1 x.2
def laws_heldFuelS_2_sp (n : Nat) : LSpec T := mkSpec T ⟨[], [0, 1, 5], []⟩ laws_heldFuelS_2_sv laws_heldFuelS_2_so (List SFuel) (Int × Int) laws_heldFuelS_2_emb laws_heldFuelS_2_prj (laws_heldFuelS_2_b n)
noncomputable def laws_heldFuelS_2_c : Code := ((loopCodes laws_heldFuelS_code)[0]?).getD .skip
def laws_heldFuelS_ann : Ann := fun id => bif Nat.beq id 3000002 then some ⟨[], [1], []⟩ else bif Nat.beq id 2000002 then some ⟨[], [4], []⟩ else none
def laws_heldFuelS_Ls (n : Nat) : Nat → Option (LSpec T) := fun id => bif Nat.beq id 2 then some (laws_heldFuelS_2_sp n) else none
theorem laws_heldFuelS_2_le (n : Nat) : LoopEq (T := T) (Phi n 27) (laws_heldFuelS_Ls n) laws_heldFuelS_ann n laws_heldFuelS_2_c (laws_heldFuelS_2_sp n) := ⟨mkSpec_dec (fun y => rfl), fun c x => by kernel_rfl, fun K J c x => by kernel_rfl⟩
theorem laws_heldFuelS_tie (n : Nat) (a0 : List SFuel) (k1 : Int) : evF (T := T) (Phi n 27) (laws_heldFuelS_Ls n) laws_heldFuelS_ann n Try.f58 (sg 58) [vA T 71 a0, vA T 3 k1] laws_heldFuelS_dec = laws_heldFuelS n a0 k1 := by kernel_rfl
theorem laws_heldFuelS_lo (n : Nat) : LoopsOk (T := T) (Phi n 27) (laws_heldFuelS_Ls n) laws_heldFuelS_ann n laws_heldFuelS_code := loopsOk_all (cs := [laws_heldFuelS_2_c]) (by kernel_rfl) ⟨⟨_, by kernel_rfl, laws_heldFuelS_2_le n⟩, trivial⟩
theorem laws_heldFuelS_ok (n : Nat) : EntOk Try.prog (ents n) (laws_heldFuelS_ent n) := by
  intro hs ar y hg h
  replace h : laws_heldFuelS_D n ar = some y := h
  unfold laws_heldFuelS_D at h
  split at h
  · obtain ⟨a0, qh0, h⟩ := Option.bind_eq_some_iff.1 h
    obtain ⟨k1, qh1, h⟩ := Option.bind_eq_some_iff.1 h
    rw [argV_eq ok qh0, argV_eq ok qh1]
    exact call_of (phiE_nat _ _) hs ok mixed Try.func58 (c := laws_heldFuelS_code) (by kernel_rfl) (laws_heldFuelS_lo n) (by kernel_rfl) (by kernel_rfl) (by kernel_rfl) laws_heldFuelS_de ((laws_heldFuelS_tie n a0 k1).trans h)
  · cases h
noncomputable def laws_heldIntS_code : Code := match Try.f23.body with | some c => c | none => .skip
def laws_heldIntS_2_sv : List Sv := [.one (.arr 3), .one (.int .i64), .one (.int .i64)]
def laws_heldIntS_2_so : List So := []
def laws_heldIntS_2_emb (c : List Int) (x : Int × Int) : EVs T laws_heldIntS_2_sv × EOs T laws_heldIntS_2_so := ((c, x.1, x.2, ()), ())
def laws_heldIntS_2_prj (y : EVs T laws_heldIntS_2_sv × EOs T laws_heldIntS_2_so) : List Int × (Int × Int) := ((y.1.1), (y.1.2.1, y.1.2.2.1))
def laws_heldIntS_2_b (n : Nat) {R : Type} (K : Ex → Sm.St T → Option R) (c : List Int) (x : Int × Int) (J : (Int × Int) → Option R) : Option R :=
  laws_heldIntS_L2 n (fun (y0 : Int) => K (.exit 0) (stOf (T := T) [1] [] [.one (.int .i64)] [] (y0, ()) ())) (fun (y0 : Int) => K .ret (stOf (T := T) [4] [] [.one (.int .i64)] [] (y0, ()) ())) (fun z0 z1 => J (z0, z1)) c x.1 x.2
def laws_heldIntS_2_sp (n : Nat) : LSpec T := mkSpec T ⟨[], [0, 1, 5], []⟩ laws_heldIntS_2_sv laws_heldIntS_2_so (List Int) (Int × Int) laws_heldIntS_2_emb laws_heldIntS_2_prj (laws_heldIntS_2_b n)
noncomputable def laws_heldIntS_2_c : Code := ((loopCodes laws_heldIntS_code)[0]?).getD .skip
def laws_heldIntS_ann : Ann := fun id => bif Nat.beq id 3000002 then some ⟨[], [1], []⟩ else bif Nat.beq id 2000002 then some ⟨[], [4], []⟩ else none
def laws_heldIntS_Ls (n : Nat) : Nat → Option (LSpec T) := fun id => bif Nat.beq id 2 then some (laws_heldIntS_2_sp n) else none
theorem laws_heldIntS_2_le (n : Nat) : LoopEq (T := T) (Phi n 28) (laws_heldIntS_Ls n) laws_heldIntS_ann n laws_heldIntS_2_c (laws_heldIntS_2_sp n) := ⟨mkSpec_dec (fun y => rfl), fun c x => by kernel_rfl, fun K J c x => by kernel_rfl⟩
theorem laws_heldIntS_tie (n : Nat) (a0 : List Int) (k1 : Int) : evF (T := T) (Phi n 28) (laws_heldIntS_Ls n) laws_heldIntS_ann n Try.f23 (sg 23) [vA T 24 a0, vA T 3 k1] laws_heldIntS_dec = laws_heldIntS n a0 k1 := by kernel_rfl
theorem laws_heldIntS_lo (n : Nat) : LoopsOk (T := T) (Phi n 28) (laws_heldIntS_Ls n) laws_heldIntS_ann n laws_heldIntS_code := loopsOk_all (cs := [laws_heldIntS_2_c]) (by kernel_rfl) ⟨⟨_, by kernel_rfl, laws_heldIntS_2_le n⟩, trivial⟩
theorem laws_heldIntS_ok (n : Nat) : EntOk Try.prog (ents n) (laws_heldIntS_ent n) := by
  intro hs ar y hg h
  replace h : laws_heldIntS_D n ar = some y := h
  unfold laws_heldIntS_D at h
  split at h
  · obtain ⟨a0, qh0, h⟩ := Option.bind_eq_some_iff.1 h
    obtain ⟨k1, qh1, h⟩ := Option.bind_eq_some_iff.1 h
    rw [argV_eq ok qh0, argV_eq ok qh1]
    exact call_of (phiE_nat _ _) hs ok mixed Try.func23 (c := laws_heldIntS_code) (by kernel_rfl) (laws_heldIntS_lo n) (by kernel_rfl) (by kernel_rfl) (by kernel_rfl) laws_heldIntS_de ((laws_heldIntS_tie n a0 k1).trans h)
  · cases h
noncomputable def laws_FnExactPumpAll_code : Code := match Try.f7.body with | some c => c | none => .skip
def laws_FnExactPumpAll_ann : Ann := fun id => none
def laws_FnExactPumpAll_Ls (n : Nat) : Nat → Option (LSpec T) := fun id => none
theorem laws_FnExactPumpAll_tie (n : Nat) (aTanks0 : List SFuel) (aPumps1 : List SPump) : evF (T := T) (Phi n 29) (laws_FnExactPumpAll_Ls n) laws_FnExactPumpAll_ann n Try.f7 (sg 7) [vA T 67 aTanks0, vA T 68 aPumps1] laws_FnExactPumpAll_dec = laws_FnExactPumpAll n aTanks0 aPumps1 := by kernel_rfl
theorem laws_FnExactPumpAll_lo (n : Nat) : LoopsOk (T := T) (Phi n 29) (laws_FnExactPumpAll_Ls n) laws_FnExactPumpAll_ann n laws_FnExactPumpAll_code := loopsOk_all (cs := []) (by kernel_rfl) trivial
theorem laws_FnExactPumpAll_ok (n : Nat) : EntOk Try.prog (ents n) (laws_FnExactPumpAll_ent n) := by
  intro hs ar y hg h
  replace h : laws_FnExactPumpAll_D n ar = some y := h
  unfold laws_FnExactPumpAll_D at h
  split at h
  · obtain ⟨aTanks0, qh0, h⟩ := Option.bind_eq_some_iff.1 h
    obtain ⟨aPumps1, qh1, h⟩ := Option.bind_eq_some_iff.1 h
    rw [argV_eq ok qh0, argV_eq ok qh1]
    exact call_of (phiE_nat _ _) hs ok mixed Try.func7 (c := laws_FnExactPumpAll_code) (by kernel_rfl) (laws_FnExactPumpAll_lo n) (by kernel_rfl) (by kernel_rfl) (by kernel_rfl) laws_FnExactPumpAll_de ((laws_FnExactPumpAll_tie n aTanks0 aPumps1).trans h)
  · cases h
theorem entsOk (n : Nat) : EntsOk Try.prog (ents n) (ents n) := ⟨laws_szFuelS_ok n, laws_szPumpS_ok n, laws_toFuel_ok n, laws_toFuelS_ok n, laws_toPump_ok n, laws_toPumpS_ok n, spec_l1In_ok n, spec_l10Fuels_ok n, spec_Pumped_ok n, spec_PumpAll_ok n, impl_own_impl_Fuel_ok n, impl_in_ok n, impl_tanksRight_1_ok n, slices_IndexFunc_impl_Fuel_impl_Fuel__impl_tanksRight_1_ok n, slices_ContainsFunc_impl_Fuel_impl_Fuel__impl_tanksRight_1_ok n, impl_tanksRight_ok n, impl_Pumped_ok n, impl_own_int_ok n, impl_PumpAll_ok n, laws_eqFuel_ok n, laws_eqFuelS_ok n, laws_eqIntS_ok n, laws_eqPump_ok n, laws_eqPumpS_ok n, laws_markFuelS_ok n, laws_markPumpS_ok n, laws_markIntS_ok n, laws_heldFuelS_ok n, laws_heldIntS_ok n, laws_FnExactPumpAll_ok n, trivial⟩
theorem sem (n i : Nat) : SemOk (Phi n i) (CallOk Try.prog T) := phiE_ok (entsOk n) i
end Go.Sm.A7
