import Derived.Test.YtefibegfcfbcjaaD10Tb
import Derived.Test.YtefibegfcfbcjaaEngE
import Derived.Test.YtefibegfcfbcjaaLay
import Derived.KernelRfl
/- Each function's code computes what the plain function computes. -/
set_option linter.unusedSimpArgs false
set_option linter.deprecated false
set_option linter.unusedSectionVars false
set_option linter.unusedVariables false
set_option maxRecDepth 100000
open Go Go.Proofs
noncomputable section
namespace Go.Sm.D10
/-- By recursors, and of a greater height than all of the functions: the kernel takes these apart first. -/
def obind {α β : Type} (o : Option α) (f : α → Option β) : Option β := let _ := @laws_FnCustoms; Option.rec (motive := fun _ => Option β) none (fun a => f a) o
theorem obind_some {α β : Type} {o : Option α} {f : α → Option β} {y : β} (h : obind o f = some y) : ∃ a, o = some a ∧ f a = some y := by
  cases o with
  | none => cases h
  | some a => exact ⟨a, rfl, h⟩
def ocons {β : Type} (l : List (A T)) (f : A T → List (A T) → Option β) : Option β := let _ := @laws_FnCustoms; List.rec (motive := fun _ => Option β) none (fun a r _ => f a r) l
theorem ocons_some {β : Type} {l : List (A T)} {f : A T → List (A T) → Option β} {y : β} (h : ocons l f = some y) : ∃ a r, l = a :: r ∧ f a r = some y := by
  cases l with
  | nil => cases h
  | cons a r => exact ⟨a, r, rfl, h⟩
def onil {β : Type} (l : List (A T)) (x : Option β) : Option β := let _ := @laws_FnCustoms; List.rec (motive := fun _ => Option β) x (fun _ _ _ => none) l
theorem onil_some {β : Type} {l : List (A T)} {x : Option β} {y : β} (h : onil l x = some y) : l = [] ∧ x = some y := by
  cases l with
  | nil => exact ⟨rfl, h⟩
  | cons a r => cases h
def laws_big_dec (res : Res T) : Option Bool := match res.rets, res.outs with
  | [a0], [] => (retV (T := T) 4 a0).bind fun r0 => some (r0)
  | _, _ => none
def laws_big_enc (y : Bool) : Res T := ⟨[vR T 4 y], []⟩
theorem laws_big_de (res : Res T) (y : Bool) (h : laws_big_dec res = some y) : res = laws_big_enc y := by
  obtain ⟨rets, outs⟩ := res
  unfold laws_big_dec at h
  dsimp only at h
  split at h
  · obtain ⟨r0, h0, h⟩ := Option.bind_eq_some_iff.1 h
    cases h
    rw [retV_eq ok h0]
    rfl
  · cases h
def spec_l1New_dec (res : Res T) : Option Sl1Cur := match res.rets, res.outs with
  | [a0], [] => (retP (T := T) 232 a0).bind fun r0 => some (r0)
  | _, _ => none
def spec_l1New_enc (y : Sl1Cur) : Res T := ⟨[.ptr 232 y], []⟩
theorem spec_l1New_de (res : Res T) (y : Sl1Cur) (h : spec_l1New_dec res = some y) : res = spec_l1New_enc y := by
  obtain ⟨rets, outs⟩ := res
  unfold spec_l1New_dec at h
  dsimp only at h
  split at h
  · obtain ⟨r0, h0, h⟩ := Option.bind_eq_some_iff.1 h
    cases h
    rw [retP_eq h0]
    rfl
  · cases h
def spec_l1Byte_dec (res : Res T) : Option (Int × Sl1Cur) := match res.rets, res.outs with
  | [a0], [b0] => (retV (T := T) 3 a0).bind fun r0 => (outV (T := T) 232 b0).bind fun r1 => some (r0, r1)
  | _, _ => none
def spec_l1Byte_enc (y : Int × Sl1Cur) : Res T := ⟨[vR T 3 y.1], [.var 232 y.2]⟩
theorem spec_l1Byte_de (res : Res T) (y : Int × Sl1Cur) (h : spec_l1Byte_dec res = some y) : res = spec_l1Byte_enc y := by
  obtain ⟨rets, outs⟩ := res
  unfold spec_l1Byte_dec at h
  dsimp only at h
  split at h
  · obtain ⟨r0, h0, h⟩ := Option.bind_eq_some_iff.1 h
    obtain ⟨r1, h1, h⟩ := Option.bind_eq_some_iff.1 h
    cases h
    rw [retV_eq ok h0, outV_eq h1]
    rfl
  · cases h
def spec_l1Below_dec (res : Res T) : Option (Int × Sl1Cur) := match res.rets, res.outs with
  | [a0], [b0] => (retV (T := T) 3 a0).bind fun r0 => (outV (T := T) 232 b0).bind fun r1 => some (r0, r1)
  | _, _ => none
def spec_l1Below_enc (y : Int × Sl1Cur) : Res T := ⟨[vR T 3 y.1], [.var 232 y.2]⟩
theorem spec_l1Below_de (res : Res T) (y : Int × Sl1Cur) (h : spec_l1Below_dec res = some y) : res = spec_l1Below_enc y := by
  obtain ⟨rets, outs⟩ := res
  unfold spec_l1Below_dec at h
  dsimp only at h
  split at h
  · obtain ⟨r0, h0, h⟩ := Option.bind_eq_some_iff.1 h
    obtain ⟨r1, h1, h⟩ := Option.bind_eq_some_iff.1 h
    cases h
    rw [retV_eq ok h0, outV_eq h1]
    rfl
  · cases h
def spec_l1PickInt_dec (res : Res T) : Option (Int × Sl1Cur) := match res.rets, res.outs with
  | [a0], [b0] => (retV (T := T) 3 a0).bind fun r0 => (outV (T := T) 232 b0).bind fun r1 => some (r0, r1)
  | _, _ => none
def spec_l1PickInt_enc (y : Int × Sl1Cur) : Res T := ⟨[vR T 3 y.1], [.var 232 y.2]⟩
theorem spec_l1PickInt_de (res : Res T) (y : Int × Sl1Cur) (h : spec_l1PickInt_dec res = some y) : res = spec_l1PickInt_enc y := by
  obtain ⟨rets, outs⟩ := res
  unfold spec_l1PickInt_dec at h
  dsimp only at h
  split at h
  · obtain ⟨r0, h0, h⟩ := Option.bind_eq_some_iff.1 h
    obtain ⟨r1, h1, h⟩ := Option.bind_eq_some_iff.1 h
    cases h
    rw [retV_eq ok h0, outV_eq h1]
    rfl
  · cases h
def spec_l16DrawDeed_dec (res : Res T) : Option (SDeed × Sl1Cur) := match res.rets, res.outs with
  | [a0], [b0] => (retV (T := T) 96 a0).bind fun r0 => (outV (T := T) 232 b0).bind fun r1 => some (r0, r1)
  | _, _ => none
def spec_l16DrawDeed_enc (y : SDeed × Sl1Cur) : Res T := ⟨[vR T 96 y.1], [.var 232 y.2]⟩
theorem spec_l16DrawDeed_de (res : Res T) (y : SDeed × Sl1Cur) (h : spec_l16DrawDeed_dec res = some y) : res = spec_l16DrawDeed_enc y := by
  obtain ⟨rets, outs⟩ := res
  unfold spec_l16DrawDeed_dec at h
  dsimp only at h
  split at h
  · obtain ⟨r0, h0, h⟩ := Option.bind_eq_some_iff.1 h
    obtain ⟨r1, h1, h⟩ := Option.bind_eq_some_iff.1 h
    cases h
    rw [retV_eq ok h0, outV_eq h1]
    rfl
  · cases h
def spec_l16Copy_dec (res : Res T) : Option SHouse := match res.rets, res.outs with
  | [a0], [] => (retV (T := T) 92 a0).bind fun r0 => some (r0)
  | _, _ => none
def spec_l16Copy_enc (y : SHouse) : Res T := ⟨[vR T 92 y], []⟩
theorem spec_l16Copy_de (res : Res T) (y : SHouse) (h : spec_l16Copy_dec res = some y) : res = spec_l16Copy_enc y := by
  obtain ⟨rets, outs⟩ := res
  unfold spec_l16Copy_dec at h
  dsimp only at h
  split at h
  · obtain ⟨r0, h0, h⟩ := Option.bind_eq_some_iff.1 h
    cases h
    rw [retV_eq ok h0]
    rfl
  · cases h
def spec_l1In_dec (res : Res T) : Option Bool := match res.rets, res.outs with
  | [a0], [] => (retV (T := T) 4 a0).bind fun r0 => some (r0)
  | _, _ => none
def spec_l1In_enc (y : Bool) : Res T := ⟨[vR T 4 y], []⟩
theorem spec_l1In_de (res : Res T) (y : Bool) (h : spec_l1In_dec res = some y) : res = spec_l1In_enc y := by
  obtain ⟨rets, outs⟩ := res
  unfold spec_l1In_dec at h
  dsimp only at h
  split at h
  · obtain ⟨r0, h0, h⟩ := Option.bind_eq_some_iff.1 h
    cases h
    rw [retV_eq ok h0]
    rfl
  · cases h
def spec_Duty6_dec (res : Res T) : Option (Int × Bool) := match res.rets, res.outs with
  | [a0, a1], [] => (retV (T := T) 3 a0).bind fun r0 => (retV (T := T) 4 a1).bind fun r1 => some (r0, r1)
  | _, _ => none
def spec_Duty6_enc (y : Int × Bool) : Res T := ⟨[vR T 3 y.1, vR T 4 y.2], []⟩
theorem spec_Duty6_de (res : Res T) (y : Int × Bool) (h : spec_Duty6_dec res = some y) : res = spec_Duty6_enc y := by
  obtain ⟨rets, outs⟩ := res
  unfold spec_Duty6_dec at h
  dsimp only at h
  split at h
  · obtain ⟨r0, h0, h⟩ := Option.bind_eq_some_iff.1 h
    obtain ⟨r1, h1, h⟩ := Option.bind_eq_some_iff.1 h
    cases h
    rw [retV_eq ok h0, retV_eq ok h1]
    rfl
  · cases h
def spec_HouseOk_dec (res : Res T) : Option Bool := match res.rets, res.outs with
  | [a0], [] => (retV (T := T) 4 a0).bind fun r0 => some (r0)
  | _, _ => none
def spec_HouseOk_enc (y : Bool) : Res T := ⟨[vR T 4 y], []⟩
theorem spec_HouseOk_de (res : Res T) (y : Bool) (h : spec_HouseOk_dec res = some y) : res = spec_HouseOk_enc y := by
  obtain ⟨rets, outs⟩ := res
  unfold spec_HouseOk_dec at h
  dsimp only at h
  split at h
  · obtain ⟨r0, h0, h⟩ := Option.bind_eq_some_iff.1 h
    cases h
    rw [retV_eq ok h0]
    rfl
  · cases h
def spec_l16Bad_dec (res : Res T) : Option Bool := match res.rets, res.outs with
  | [a0], [] => (retV (T := T) 4 a0).bind fun r0 => some (r0)
  | _, _ => none
def spec_l16Bad_enc (y : Bool) : Res T := ⟨[vR T 4 y], []⟩
theorem spec_l16Bad_de (res : Res T) (y : Bool) (h : spec_l16Bad_dec res = some y) : res = spec_l16Bad_enc y := by
  obtain ⟨rets, outs⟩ := res
  unfold spec_l16Bad_dec at h
  dsimp only at h
  split at h
  · obtain ⟨r0, h0, h⟩ := Option.bind_eq_some_iff.1 h
    cases h
    rw [retV_eq ok h0]
    rfl
  · cases h
def spec_l16Find_dec (res : Res T) : Option Int := match res.rets, res.outs with
  | [a0], [] => (retV (T := T) 3 a0).bind fun r0 => some (r0)
  | _, _ => none
def spec_l16Find_enc (y : Int) : Res T := ⟨[vR T 3 y], []⟩
theorem spec_l16Find_de (res : Res T) (y : Int) (h : spec_l16Find_dec res = some y) : res = spec_l16Find_enc y := by
  obtain ⟨rets, outs⟩ := res
  unfold spec_l16Find_dec at h
  dsimp only at h
  split at h
  · obtain ⟨r0, h0, h⟩ := Option.bind_eq_some_iff.1 h
    cases h
    rw [retV_eq ok h0]
    rfl
  · cases h
def spec_l16With_dec (res : Res T) : Option SHouse := match res.rets, res.outs with
  | [a0], [] => (retV (T := T) 92 a0).bind fun r0 => some (r0)
  | _, _ => none
def spec_l16With_enc (y : SHouse) : Res T := ⟨[vR T 92 y], []⟩
theorem spec_l16With_de (res : Res T) (y : SHouse) (h : spec_l16With_dec res = some y) : res = spec_l16With_enc y := by
  obtain ⟨rets, outs⟩ := res
  unfold spec_l16With_dec at h
  dsimp only at h
  split at h
  · obtain ⟨r0, h0, h⟩ := Option.bind_eq_some_iff.1 h
    cases h
    rw [retV_eq ok h0]
    rfl
  · cases h
def spec_l16From_dec (res : Res T) : Option Int := match res.rets, res.outs with
  | [a0], [] => (retV (T := T) 3 a0).bind fun r0 => some (r0)
  | _, _ => none
def spec_l16From_enc (y : Int) : Res T := ⟨[vR T 3 y], []⟩
theorem spec_l16From_de (res : Res T) (y : Int) (h : spec_l16From_dec res = some y) : res = spec_l16From_enc y := by
  obtain ⟨rets, outs⟩ := res
  unfold spec_l16From_dec at h
  dsimp only at h
  split at h
  · obtain ⟨r0, h0, h⟩ := Option.bind_eq_some_iff.1 h
    cases h
    rw [retV_eq ok h0]
    rfl
  · cases h
def spec_DoDeed_dec (res : Res T) : Option (SHouse × Int) := match res.rets, res.outs with
  | [a0, a1], [] => (retV (T := T) 92 a0).bind fun r0 => (retV (T := T) 3 a1).bind fun r1 => some (r0, r1)
  | _, _ => none
def spec_DoDeed_enc (y : SHouse × Int) : Res T := ⟨[vR T 92 y.1, vR T 3 y.2], []⟩
theorem spec_DoDeed_de (res : Res T) (y : SHouse × Int) (h : spec_DoDeed_dec res = some y) : res = spec_DoDeed_enc y := by
  obtain ⟨rets, outs⟩ := res
  unfold spec_DoDeed_dec at h
  dsimp only at h
  split at h
  · obtain ⟨r0, h0, h⟩ := Option.bind_eq_some_iff.1 h
    obtain ⟨r1, h1, h⟩ := Option.bind_eq_some_iff.1 h
    cases h
    rw [retV_eq ok h0, retV_eq ok h1]
    rfl
  · cases h
def spec_l16Draw_dec (res : Res T) : Option (SHouse × Sl1Cur) := match res.rets, res.outs with
  | [a0], [b0] => (retV (T := T) 92 a0).bind fun r0 => (outV (T := T) 232 b0).bind fun r1 => some (r0, r1)
  | _, _ => none
def spec_l16Draw_enc (y : SHouse × Sl1Cur) : Res T := ⟨[vR T 92 y.1], [.var 232 y.2]⟩
theorem spec_l16Draw_de (res : Res T) (y : SHouse × Sl1Cur) (h : spec_l16Draw_dec res = some y) : res = spec_l16Draw_enc y := by
  obtain ⟨rets, outs⟩ := res
  unfold spec_l16Draw_dec at h
  dsimp only at h
  split at h
  · obtain ⟨r0, h0, h⟩ := Option.bind_eq_some_iff.1 h
    obtain ⟨r1, h1, h⟩ := Option.bind_eq_some_iff.1 h
    cases h
    rw [retV_eq ok h0, outV_eq h1]
    rfl
  · cases h
def spec_DrawHouse_dec (res : Res T) : Option (SHouse × List SDeed) := match res.rets, res.outs with
  | [a0, a1], [] => (retV (T := T) 92 a0).bind fun r0 => (retV (T := T) 105 a1).bind fun r1 => some (r0, r1)
  | _, _ => none
def spec_DrawHouse_enc (y : SHouse × List SDeed) : Res T := ⟨[vR T 92 y.1, vR T 105 y.2], []⟩
theorem spec_DrawHouse_de (res : Res T) (y : SHouse × List SDeed) (h : spec_DrawHouse_dec res = some y) : res = spec_DrawHouse_enc y := by
  obtain ⟨rets, outs⟩ := res
  unfold spec_DrawHouse_dec at h
  dsimp only at h
  split at h
  · obtain ⟨r0, h0, h⟩ := Option.bind_eq_some_iff.1 h
    obtain ⟨r1, h1, h⟩ := Option.bind_eq_some_iff.1 h
    cases h
    rw [retV_eq ok h0, retV_eq ok h1]
    rfl
  · cases h
def impl_own_impl_Lot_dec (res : Res T) : Option (List SLot) := match res.rets, res.outs with
  | [a0], [] => (retV (T := T) 89 a0).bind fun r0 => some (r0)
  | _, _ => none
def impl_own_impl_Lot_enc (y : List SLot) : Res T := ⟨[vR T 89 y], []⟩
theorem impl_own_impl_Lot_de (res : Res T) (y : List SLot) (h : impl_own_impl_Lot_dec res = some y) : res = impl_own_impl_Lot_enc y := by
  obtain ⟨rets, outs⟩ := res
  unfold impl_own_impl_Lot_dec at h
  dsimp only at h
  split at h
  · obtain ⟨r0, h0, h⟩ := Option.bind_eq_some_iff.1 h
    cases h
    rw [retV_eq ok h0]
    rfl
  · cases h
def impl_own_impl_Trader_dec (res : Res T) : Option (List STrader) := match res.rets, res.outs with
  | [a0], [] => (retV (T := T) 90 a0).bind fun r0 => some (r0)
  | _, _ => none
def impl_own_impl_Trader_enc (y : List STrader) : Res T := ⟨[vR T 90 y], []⟩
theorem impl_own_impl_Trader_de (res : Res T) (y : List STrader) (h : impl_own_impl_Trader_dec res = some y) : res = impl_own_impl_Trader_enc y := by
  obtain ⟨rets, outs⟩ := res
  unfold impl_own_impl_Trader_dec at h
  dsimp only at h
  split at h
  · obtain ⟨r0, h0, h⟩ := Option.bind_eq_some_iff.1 h
    cases h
    rw [retV_eq ok h0]
    rfl
  · cases h
def impl_House_own_dec (res : Res T) : Option SHouse := match res.rets, res.outs with
  | [a0], [] => (retV (T := T) 92 a0).bind fun r0 => some (r0)
  | _, _ => none
def impl_House_own_enc (y : SHouse) : Res T := ⟨[vR T 92 y], []⟩
theorem impl_House_own_de (res : Res T) (y : SHouse) (h : impl_House_own_dec res = some y) : res = impl_House_own_enc y := by
  obtain ⟨rets, outs⟩ := res
  unfold impl_House_own_dec at h
  dsimp only at h
  split at h
  · obtain ⟨r0, h0, h⟩ := Option.bind_eq_some_iff.1 h
    cases h
    rw [retV_eq ok h0]
    rfl
  · cases h
def impl_in_dec (res : Res T) : Option Bool := match res.rets, res.outs with
  | [a0], [] => (retV (T := T) 4 a0).bind fun r0 => some (r0)
  | _, _ => none
def impl_in_enc (y : Bool) : Res T := ⟨[vR T 4 y], []⟩
theorem impl_in_de (res : Res T) (y : Bool) (h : impl_in_dec res = some y) : res = impl_in_enc y := by
  obtain ⟨rets, outs⟩ := res
  unfold impl_in_dec at h
  dsimp only at h
  split at h
  · obtain ⟨r0, h0, h⟩ := Option.bind_eq_some_iff.1 h
    cases h
    rw [retV_eq ok h0]
    rfl
  · cases h
def impl_idRight_dec (res : Res T) : Option Bool := match res.rets, res.outs with
  | [a0], [] => (retV (T := T) 4 a0).bind fun r0 => some (r0)
  | _, _ => none
def impl_idRight_enc (y : Bool) : Res T := ⟨[vR T 4 y], []⟩
theorem impl_idRight_de (res : Res T) (y : Bool) (h : impl_idRight_dec res = some y) : res = impl_idRight_enc y := by
  obtain ⟨rets, outs⟩ := res
  unfold impl_idRight_dec at h
  dsimp only at h
  split at h
  · obtain ⟨r0, h0, h⟩ := Option.bind_eq_some_iff.1 h
    cases h
    rw [retV_eq ok h0]
    rfl
  · cases h
def impl_lotRight_dec (res : Res T) : Option Bool := match res.rets, res.outs with
  | [a0], [] => (retV (T := T) 4 a0).bind fun r0 => some (r0)
  | _, _ => none
def impl_lotRight_enc (y : Bool) : Res T := ⟨[vR T 4 y], []⟩
theorem impl_lotRight_de (res : Res T) (y : Bool) (h : impl_lotRight_dec res = some y) : res = impl_lotRight_enc y := by
  obtain ⟨rets, outs⟩ := res
  unfold impl_lotRight_dec at h
  dsimp only at h
  split at h
  · obtain ⟨r0, h0, h⟩ := Option.bind_eq_some_iff.1 h
    cases h
    rw [retV_eq ok h0]
    rfl
  · cases h
def impl_Duty6_dec (res : Res T) : Option (Int × Bool) := match res.rets, res.outs with
  | [a0, a1], [] => (retV (T := T) 3 a0).bind fun r0 => (retV (T := T) 4 a1).bind fun r1 => some (r0, r1)
  | _, _ => none
def impl_Duty6_enc (y : Int × Bool) : Res T := ⟨[vR T 3 y.1, vR T 4 y.2], []⟩
theorem impl_Duty6_de (res : Res T) (y : Int × Bool) (h : impl_Duty6_dec res = some y) : res = impl_Duty6_enc y := by
  obtain ⟨rets, outs⟩ := res
  unfold impl_Duty6_dec at h
  dsimp only at h
  split at h
  · obtain ⟨r0, h0, h⟩ := Option.bind_eq_some_iff.1 h
    obtain ⟨r1, h1, h⟩ := Option.bind_eq_some_iff.1 h
    cases h
    rw [retV_eq ok h0, retV_eq ok h1]
    rfl
  · cases h
def impl_Lot_duty_dec (res : Res T) : Option Int := match res.rets, res.outs with
  | [a0], [] => (retV (T := T) 3 a0).bind fun r0 => some (r0)
  | _, _ => none
def impl_Lot_duty_enc (y : Int) : Res T := ⟨[vR T 3 y], []⟩
theorem impl_Lot_duty_de (res : Res T) (y : Int) (h : impl_Lot_duty_dec res = some y) : res = impl_Lot_duty_enc y := by
  obtain ⟨rets, outs⟩ := res
  unfold impl_Lot_duty_dec at h
  dsimp only at h
  split at h
  · obtain ⟨r0, h0, h⟩ := Option.bind_eq_some_iff.1 h
    cases h
    rw [retV_eq ok h0]
    rfl
  · cases h
def impl_HouseOk_dec (res : Res T) : Option Bool := match res.rets, res.outs with
  | [a0], [] => (retV (T := T) 4 a0).bind fun r0 => some (r0)
  | _, _ => none
def impl_HouseOk_enc (y : Bool) : Res T := ⟨[vR T 4 y], []⟩
theorem impl_HouseOk_de (res : Res T) (y : Bool) (h : impl_HouseOk_dec res = some y) : res = impl_HouseOk_enc y := by
  obtain ⟨rets, outs⟩ := res
  unfold impl_HouseOk_dec at h
  dsimp only at h
  split at h
  · obtain ⟨r0, h0, h⟩ := Option.bind_eq_some_iff.1 h
    cases h
    rw [retV_eq ok h0]
    rfl
  · cases h
def impl_House_lot_1_dec (res : Res T) : Option Bool := match res.rets, res.outs with
  | [a0], [] => (retV (T := T) 4 a0).bind fun r0 => some (r0)
  | _, _ => none
def impl_House_lot_1_enc (y : Bool) : Res T := ⟨[vR T 4 y], []⟩
theorem impl_House_lot_1_de (res : Res T) (y : Bool) (h : impl_House_lot_1_dec res = some y) : res = impl_House_lot_1_enc y := by
  obtain ⟨rets, outs⟩ := res
  unfold impl_House_lot_1_dec at h
  dsimp only at h
  split at h
  · obtain ⟨r0, h0, h⟩ := Option.bind_eq_some_iff.1 h
    cases h
    rw [retV_eq ok h0]
    rfl
  · cases h
def slices_IndexFunc_impl_Lot_impl_Lot__impl_House_lot_1_dec (res : Res T) : Option Int := match res.rets, res.outs with
  | [a0], [] => (retV (T := T) 3 a0).bind fun r0 => some (r0)
  | _, _ => none
def slices_IndexFunc_impl_Lot_impl_Lot__impl_House_lot_1_enc (y : Int) : Res T := ⟨[vR T 3 y], []⟩
theorem slices_IndexFunc_impl_Lot_impl_Lot__impl_House_lot_1_de (res : Res T) (y : Int) (h : slices_IndexFunc_impl_Lot_impl_Lot__impl_House_lot_1_dec res = some y) : res = slices_IndexFunc_impl_Lot_impl_Lot__impl_House_lot_1_enc y := by
  obtain ⟨rets, outs⟩ := res
  unfold slices_IndexFunc_impl_Lot_impl_Lot__impl_House_lot_1_dec at h
  dsimp only at h
  split at h
  · obtain ⟨r0, h0, h⟩ := Option.bind_eq_some_iff.1 h
    cases h
    rw [retV_eq ok h0]
    rfl
  · cases h
def impl_House_lot_dec (res : Res T) : Option Int := match res.rets, res.outs with
  | [a0], [] => (retV (T := T) 3 a0).bind fun r0 => some (r0)
  | _, _ => none
def impl_House_lot_enc (y : Int) : Res T := ⟨[vR T 3 y], []⟩
theorem impl_House_lot_de (res : Res T) (y : Int) (h : impl_House_lot_dec res = some y) : res = impl_House_lot_enc y := by
  obtain ⟨rets, outs⟩ := res
  unfold impl_House_lot_dec at h
  dsimp only at h
  split at h
  · obtain ⟨r0, h0, h⟩ := Option.bind_eq_some_iff.1 h
    cases h
    rw [retV_eq ok h0]
    rfl
  · cases h
def impl_DoDeed_1_dec (res : Res T) : Option Bool := match res.rets, res.outs with
  | [a0], [] => (retV (T := T) 4 a0).bind fun r0 => some (r0)
  | _, _ => none
def impl_DoDeed_1_enc (y : Bool) : Res T := ⟨[vR T 4 y], []⟩
theorem impl_DoDeed_1_de (res : Res T) (y : Bool) (h : impl_DoDeed_1_dec res = some y) : res = impl_DoDeed_1_enc y := by
  obtain ⟨rets, outs⟩ := res
  unfold impl_DoDeed_1_dec at h
  dsimp only at h
  split at h
  · obtain ⟨r0, h0, h⟩ := Option.bind_eq_some_iff.1 h
    cases h
    rw [retV_eq ok h0]
    rfl
  · cases h
def impl_House_put_1_dec (res : Res T) : Option Int := match res.rets, res.outs with
  | [a0], [] => (retV (T := T) 3 a0).bind fun r0 => some (r0)
  | _, _ => none
def impl_House_put_1_enc (y : Int) : Res T := ⟨[vR T 3 y], []⟩
theorem impl_House_put_1_de (res : Res T) (y : Int) (h : impl_House_put_1_dec res = some y) : res = impl_House_put_1_enc y := by
  obtain ⟨rets, outs⟩ := res
  unfold impl_House_put_1_dec at h
  dsimp only at h
  split at h
  · obtain ⟨r0, h0, h⟩ := Option.bind_eq_some_iff.1 h
    cases h
    rw [retV_eq ok h0]
    rfl
  · cases h
def slices_SortFunc_impl_Lot_impl_Lot__impl_House_put_1_dec (res : Res T) : Option (List SLot) := match res.rets, res.outs with
  | [], [b0] => (outS (T := T) 116 b0).bind fun r0 => some (r0)
  | _, _ => none
def slices_SortFunc_impl_Lot_impl_Lot__impl_House_put_1_enc (y : List SLot) : Res T := ⟨[], [.sl 116 y]⟩
theorem slices_SortFunc_impl_Lot_impl_Lot__impl_House_put_1_de (res : Res T) (y : List SLot) (h : slices_SortFunc_impl_Lot_impl_Lot__impl_House_put_1_dec res = some y) : res = slices_SortFunc_impl_Lot_impl_Lot__impl_House_put_1_enc y := by
  obtain ⟨rets, outs⟩ := res
  unfold slices_SortFunc_impl_Lot_impl_Lot__impl_House_put_1_dec at h
  dsimp only at h
  split at h
  · obtain ⟨r0, h0, h⟩ := Option.bind_eq_some_iff.1 h
    cases h
    rw [outS_eq h0]
    rfl
  · cases h
def impl_House_put_dec (res : Res T) : Option SHouse := match res.rets, res.outs with
  | [], [b0] => (outV (T := T) 92 b0).bind fun r0 => some (r0)
  | _, _ => none
def impl_House_put_enc (y : SHouse) : Res T := ⟨[], [.var 92 y]⟩
theorem impl_House_put_de (res : Res T) (y : SHouse) (h : impl_House_put_dec res = some y) : res = impl_House_put_enc y := by
  obtain ⟨rets, outs⟩ := res
  unfold impl_House_put_dec at h
  dsimp only at h
  split at h
  · obtain ⟨r0, h0, h⟩ := Option.bind_eq_some_iff.1 h
    cases h
    rw [outV_eq h0]
    rfl
  · cases h
def impl_DoDeed_dec (res : Res T) : Option (SHouse × Int) := match res.rets, res.outs with
  | [a0, a1], [] => (retV (T := T) 92 a0).bind fun r0 => (retV (T := T) 3 a1).bind fun r1 => some (r0, r1)
  | _, _ => none
def impl_DoDeed_enc (y : SHouse × Int) : Res T := ⟨[vR T 92 y.1, vR T 3 y.2], []⟩
theorem impl_DoDeed_de (res : Res T) (y : SHouse × Int) (h : impl_DoDeed_dec res = some y) : res = impl_DoDeed_enc y := by
  obtain ⟨rets, outs⟩ := res
  unfold impl_DoDeed_dec at h
  dsimp only at h
  split at h
  · obtain ⟨r0, h0, h⟩ := Option.bind_eq_some_iff.1 h
    obtain ⟨r1, h1, h⟩ := Option.bind_eq_some_iff.1 h
    cases h
    rw [retV_eq ok h0, retV_eq ok h1]
    rfl
  · cases h
def impl_own_int_dec (res : Res T) : Option (List Int) := match res.rets, res.outs with
  | [a0], [] => (retV (T := T) 23 a0).bind fun r0 => some (r0)
  | _, _ => none
def impl_own_int_enc (y : List Int) : Res T := ⟨[vR T 23 y], []⟩
theorem impl_own_int_de (res : Res T) (y : List Int) (h : impl_own_int_dec res = some y) : res = impl_own_int_enc y := by
  obtain ⟨rets, outs⟩ := res
  unfold impl_own_int_dec at h
  dsimp only at h
  split at h
  · obtain ⟨r0, h0, h⟩ := Option.bind_eq_some_iff.1 h
    cases h
    rw [retV_eq ok h0]
    rfl
  · cases h
def impl_RunDeeds_dec (res : Res T) : Option (SHouse × List Int) := match res.rets, res.outs with
  | [a0, a1], [] => (retV (T := T) 92 a0).bind fun r0 => (retV (T := T) 23 a1).bind fun r1 => some (r0, r1)
  | _, _ => none
def impl_RunDeeds_enc (y : SHouse × List Int) : Res T := ⟨[vR T 92 y.1, vR T 23 y.2], []⟩
theorem impl_RunDeeds_de (res : Res T) (y : SHouse × List Int) (h : impl_RunDeeds_dec res = some y) : res = impl_RunDeeds_enc y := by
  obtain ⟨rets, outs⟩ := res
  unfold impl_RunDeeds_dec at h
  dsimp only at h
  split at h
  · obtain ⟨r0, h0, h⟩ := Option.bind_eq_some_iff.1 h
    obtain ⟨r1, h1, h⟩ := Option.bind_eq_some_iff.1 h
    cases h
    rw [retV_eq ok h0, retV_eq ok h1]
    rfl
  · cases h
def laws_FnCustoms_dec (res : Res T) : Option Bool := match res.rets, res.outs with
  | [a0], [] => (retV (T := T) 4 a0).bind fun r0 => some (r0)
  | _, _ => none
def laws_FnCustoms_enc (y : Bool) : Res T := ⟨[vR T 4 y], []⟩
theorem laws_FnCustoms_de (res : Res T) (y : Bool) (h : laws_FnCustoms_dec res = some y) : res = laws_FnCustoms_enc y := by
  obtain ⟨rets, outs⟩ := res
  unfold laws_FnCustoms_dec at h
  dsimp only at h
  split at h
  · obtain ⟨r0, h0, h⟩ := Option.bind_eq_some_iff.1 h
    cases h
    rw [retV_eq ok h0]
    rfl
  · cases h
def laws_big_D (n : Nat) (r0 : List (A T)) : Option Bool := ocons r0 fun a0 r1 => onil r1 (obind (argV (T := T) 70 a0) fun code0 => laws_big n code0)
def laws_big_ent (n : Nat) : Ent T := ⟨42, 0, [], Bool, laws_big_D n, laws_big_enc⟩
def spec_l1New_D (n : Nat) (r0 : List (A T)) : Option Sl1Cur := ocons r0 fun a0 r1 => onil r1 (obind (argV (T := T) 70 a0) fun code0 => spec_l1New n code0)
def spec_l1New_ent (n : Nat) : Ent T := ⟨126, 1, [], Sl1Cur, spec_l1New_D n, spec_l1New_enc⟩
def spec_l1Byte_D (n : Nat) (r0 : List (A T)) : Option (Int × Sl1Cur) := ocons r0 fun a0 r1 => onil r1 (obind (argP (T := T) 232 a0) fun c0 => spec_l1Byte n c0)
def spec_l1Byte_ent (n : Nat) : Ent T := ⟨194, 2, [], Int × Sl1Cur, spec_l1Byte_D n, spec_l1Byte_enc⟩
def spec_l1Below_D (n : Nat) (r0 : List (A T)) : Option (Int × Sl1Cur) := ocons r0 fun a0 r1 => ocons r1 fun a1 r2 => onil r2 (obind (argP (T := T) 232 a0) fun c0 => obind (argV (T := T) 3 a1) fun n1 => spec_l1Below n c0 n1)
def spec_l1Below_ent (n : Nat) : Ent T := ⟨128, 3, [], Int × Sl1Cur, spec_l1Below_D n, spec_l1Below_enc⟩
def spec_l1PickInt_D (n : Nat) (r0 : List (A T)) : Option (Int × Sl1Cur) := ocons r0 fun a0 r1 => ocons r1 fun a1 r2 => onil r2 (obind (argP (T := T) 232 a0) fun c0 => obind (argV (T := T) 23 a1) fun list1 => spec_l1PickInt n c0 list1)
def spec_l1PickInt_ent (n : Nat) : Ent T := ⟨197, 4, [], Int × Sl1Cur, spec_l1PickInt_D n, spec_l1PickInt_enc⟩
def spec_l16DrawDeed_D (n : Nat) (r0 : List (A T)) : Option (SDeed × Sl1Cur) := ocons r0 fun a0 r1 => onil r1 (obind (argP (T := T) 232 a0) fun c0 => spec_l16DrawDeed n c0)
def spec_l16DrawDeed_ent (n : Nat) : Ent T := ⟨155, 5, [], SDeed × Sl1Cur, spec_l16DrawDeed_D n, spec_l16DrawDeed_enc⟩
def spec_l16Copy_D (n : Nat) (r0 : List (A T)) : Option SHouse := ocons r0 fun a0 r1 => onil r1 (obind (argV (T := T) 92 a0) fun h0 => spec_l16Copy n h0)
def spec_l16Copy_ent (n : Nat) : Ent T := ⟨133, 6, [], SHouse, spec_l16Copy_D n, spec_l16Copy_enc⟩
def spec_l1In_D (n : Nat) (r0 : List (A T)) : Option Bool := ocons r0 fun a0 r1 => ocons r1 fun a1 r2 => ocons r2 fun a2 r3 => onil r3 (obind (argV (T := T) 3 a0) fun x0 => obind (argV (T := T) 3 a1) fun a1 => obind (argV (T := T) 3 a2) fun b2 => spec_l1In n x0 a1 b2)
def spec_l1In_ent (n : Nat) : Ent T := ⟨174, 7, [], Bool, spec_l1In_D n, spec_l1In_enc⟩
def spec_Duty6_D (n : Nat) (r0 : List (A T)) : Option (Int × Bool) := ocons r0 fun a0 r1 => ocons r1 fun a1 r2 => ocons r2 fun a2 r3 => onil r3 (obind (argV (T := T) 3 a0) fun many0 => obind (argV (T := T) 3 a1) fun value1 => obind (argV (T := T) 3 a2) fun rate2 => spec_Duty6 n many0 value1 rate2)
def spec_Duty6_ent (n : Nat) : Ent T := ⟨138, 8, [], Int × Bool, spec_Duty6_D n, spec_Duty6_enc⟩
def spec_HouseOk_D (n : Nat) (r0 : List (A T)) : Option Bool := ocons r0 fun a0 r1 => onil r1 (obind (argV (T := T) 92 a0) fun h0 => spec_HouseOk n h0)
def spec_HouseOk_ent (n : Nat) : Ent T := ⟨172, 9, [], Bool, spec_HouseOk_D n, spec_HouseOk_enc⟩
def spec_l16Bad_D (n : Nat) (r0 : List (A T)) : Option Bool := ocons r0 fun a0 r1 => ocons r1 fun a1 r2 => onil r2 (obind (argV (T := T) 92 a0) fun h0 => obind (argV (T := T) 96 a1) fun d1 => spec_l16Bad n h0 d1)
def spec_l16Bad_ent (n : Nat) : Ent T := ⟨134, 10, [], Bool, spec_l16Bad_D n, spec_l16Bad_enc⟩
def spec_l16Find_D (n : Nat) (r0 : List (A T)) : Option Int := ocons r0 fun a0 r1 => ocons r1 fun a1 r2 => onil r2 (obind (argV (T := T) 92 a0) fun h0 => obind (argV (T := T) 3 a1) fun id1 => spec_l16Find n h0 id1)
def spec_l16Find_ent (n : Nat) : Ent T := ⟨135, 11, [], Int, spec_l16Find_D n, spec_l16Find_enc⟩
def spec_l16With_D (n : Nat) (r0 : List (A T)) : Option SHouse := ocons r0 fun a0 r1 => ocons r1 fun a1 r2 => onil r2 (obind (argV (T := T) 92 a0) fun h0 => obind (argV (T := T) 116 a1) fun x1 => spec_l16With n h0 x1)
def spec_l16With_ent (n : Nat) : Ent T := ⟨136, 12, [], SHouse, spec_l16With_D n, spec_l16With_enc⟩
def spec_l16From_D (n : Nat) (r0 : List (A T)) : Option Int := ocons r0 fun a0 r1 => onil r1 (obind (argV (T := T) 3 a0) fun kind0 => spec_l16From n kind0)
def spec_l16From_ent (n : Nat) : Ent T := ⟨137, 13, [], Int, spec_l16From_D n, spec_l16From_enc⟩
def spec_DoDeed_D (n : Nat) (r0 : List (A T)) : Option (SHouse × Int) := ocons r0 fun a0 r1 => ocons r1 fun a1 r2 => onil r2 (obind (argV (T := T) 92 a0) fun h0 => obind (argV (T := T) 96 a1) fun d1 => spec_DoDeed n h0 d1)
def spec_DoDeed_ent (n : Nat) : Ent T := ⟨49, 14, [], SHouse × Int, spec_DoDeed_D n, spec_DoDeed_enc⟩
def spec_l16Draw_D (n : Nat) (r0 : List (A T)) : Option (SHouse × Sl1Cur) := ocons r0 fun a0 r1 => onil r1 (obind (argP (T := T) 232 a0) fun c0 => spec_l16Draw n c0)
def spec_l16Draw_ent (n : Nat) : Ent T := ⟨154, 15, [], SHouse × Sl1Cur, spec_l16Draw_D n, spec_l16Draw_enc⟩
def spec_DrawHouse_D (n : Nat) (r0 : List (A T)) : Option (SHouse × List SDeed) := ocons r0 fun a0 r1 => onil r1 (obind (argV (T := T) 70 a0) fun code0 => spec_DrawHouse n code0)
def spec_DrawHouse_ent (n : Nat) : Ent T := ⟨62, 16, [], SHouse × List SDeed, spec_DrawHouse_D n, spec_DrawHouse_enc⟩
def impl_own_impl_Lot_D (n : Nat) (r0 : List (A T)) : Option (List SLot) := ocons r0 fun a0 r1 => onil r1 (obind (argV (T := T) 89 a0) fun l0 => impl_own_impl_Lot n l0)
def impl_own_impl_Lot_ent (n : Nat) : Ent T := ⟨201, 17, [], List SLot, impl_own_impl_Lot_D n, impl_own_impl_Lot_enc⟩
def impl_own_impl_Trader_D (n : Nat) (r0 : List (A T)) : Option (List STrader) := ocons r0 fun a0 r1 => onil r1 (obind (argV (T := T) 90 a0) fun l0 => impl_own_impl_Trader n l0)
def impl_own_impl_Trader_ent (n : Nat) : Ent T := ⟨202, 18, [], List STrader, impl_own_impl_Trader_D n, impl_own_impl_Trader_enc⟩
def impl_House_own_D (n : Nat) (r0 : List (A T)) : Option SHouse := ocons r0 fun a0 r1 => onil r1 (obind (argV (T := T) 92 a0) fun h0 => impl_House_own n h0)
def impl_House_own_ent (n : Nat) : Ent T := ⟨141, 19, [], SHouse, impl_House_own_D n, impl_House_own_enc⟩
def impl_in_D (n : Nat) (r0 : List (A T)) : Option Bool := ocons r0 fun a0 r1 => ocons r1 fun a1 r2 => ocons r2 fun a2 r3 => onil r3 (obind (argV (T := T) 3 a0) fun n0 => obind (argV (T := T) 3 a1) fun least1 => obind (argV (T := T) 3 a2) fun most2 => impl_in n n0 least1 most2)
def impl_in_ent (n : Nat) : Ent T := ⟨101, 20, [], Bool, impl_in_D n, impl_in_enc⟩
def impl_idRight_D (n : Nat) (r0 : List (A T)) : Option Bool := ocons r0 fun a0 r1 => onil r1 (obind (argV (T := T) 3 a0) fun n0 => impl_idRight n n0)
def impl_idRight_ent (n : Nat) : Ent T := ⟨102, 21, [], Bool, impl_idRight_D n, impl_idRight_enc⟩
def impl_lotRight_D (n : Nat) (r0 : List (A T)) : Option Bool := ocons r0 fun a0 r1 => ocons r1 fun a1 r2 => ocons r2 fun a2 r3 => onil r3 (obind (argV (T := T) 3 a0) fun many0 => obind (argV (T := T) 3 a1) fun value1 => obind (argV (T := T) 3 a2) fun rate2 => impl_lotRight n many0 value1 rate2)
def impl_lotRight_ent (n : Nat) : Ent T := ⟨142, 22, [], Bool, impl_lotRight_D n, impl_lotRight_enc⟩
def impl_Duty6_D (n : Nat) (r0 : List (A T)) : Option (Int × Bool) := ocons r0 fun a0 r1 => ocons r1 fun a1 r2 => ocons r2 fun a2 r3 => onil r3 (obind (argV (T := T) 3 a0) fun many0 => obind (argV (T := T) 3 a1) fun value1 => obind (argV (T := T) 3 a2) fun rate2 => impl_Duty6 n many0 value1 rate2)
def impl_Duty6_ent (n : Nat) : Ent T := ⟨64, 23, [], Int × Bool, impl_Duty6_D n, impl_Duty6_enc⟩
def impl_Lot_duty_D (n : Nat) (r0 : List (A T)) : Option Int := ocons r0 fun a0 r1 => onil r1 (obind (argV (T := T) 116 a0) fun l0 => impl_Lot_duty n l0)
def impl_Lot_duty_ent (n : Nat) : Ent T := ⟨146, 24, [], Int, impl_Lot_duty_D n, impl_Lot_duty_enc⟩
def impl_HouseOk_D (n : Nat) (r0 : List (A T)) : Option Bool := ocons r0 fun a0 r1 => onil r1 (obind (argV (T := T) 92 a0) fun h0 => impl_HouseOk n h0)
def impl_HouseOk_ent (n : Nat) : Ent T := ⟨63, 25, [], Bool, impl_HouseOk_D n, impl_HouseOk_enc⟩
def impl_House_lot_1_D (n : Nat) (r0 : List (A T)) : Option Bool := ocons r0 fun a0 r1 => ocons r1 fun a1 r2 => onil r2 (obind (argV (T := T) 116 a0) fun l0 => obind (argP (T := T) 3 a1) fun a1 => impl_House_lot_1 n l0 a1)
def impl_House_lot_1_ent (n : Nat) : Ent T := ⟨204, 26, [], Bool, impl_House_lot_1_D n, impl_House_lot_1_enc⟩
def slices_IndexFunc_impl_Lot_impl_Lot__impl_House_lot_1_D (n : Nat) (ar : List (A T)) : Option Int := match ar with
  | [a0, .fn _ [k1_0]] => obind (argV (T := T) 89 a0) fun s0 => obind (argP (T := T) 3 k1_0) fun f1c0 => slices_IndexFunc_impl_Lot_impl_Lot__impl_House_lot_1 n s0 f1c0
  | _ => none
def slices_IndexFunc_impl_Lot_impl_Lot__impl_House_lot_1_ent (n : Nat) : Ent T := ⟨203, 27, [204], Int, slices_IndexFunc_impl_Lot_impl_Lot__impl_House_lot_1_D n, slices_IndexFunc_impl_Lot_impl_Lot__impl_House_lot_1_enc⟩
def impl_House_lot_D (n : Nat) (r0 : List (A T)) : Option Int := ocons r0 fun a0 r1 => ocons r1 fun a1 r2 => onil r2 (obind (argV (T := T) 92 a0) fun h0 => obind (argV (T := T) 3 a1) fun id1 => impl_House_lot n h0 id1)
def impl_House_lot_ent (n : Nat) : Ent T := ⟨144, 28, [], Int, impl_House_lot_D n, impl_House_lot_enc⟩
def impl_DoDeed_1_D (n : Nat) (r0 : List (A T)) : Option Bool := ocons r0 fun a0 r1 => ocons r1 fun a1 r2 => onil r2 (obind (argV (T := T) 3 a0) fun id0 => obind (argP (T := T) 92 a1) fun a1 => impl_DoDeed_1 n id0 a1)
def impl_DoDeed_1_ent (n : Nat) : Ent T := ⟨143, 29, [], Bool, impl_DoDeed_1_D n, impl_DoDeed_1_enc⟩
def impl_House_put_1_D (n : Nat) (r0 : List (A T)) : Option Int := ocons r0 fun a0 r1 => ocons r1 fun a1 r2 => onil r2 (obind (argV (T := T) 116 a0) fun a0 => obind (argV (T := T) 116 a1) fun b1 => impl_House_put_1 n a0 b1)
def impl_House_put_1_ent (n : Nat) : Ent T := ⟨206, 30, [], Int, impl_House_put_1_D n, impl_House_put_1_enc⟩
def slices_SortFunc_impl_Lot_impl_Lot__impl_House_put_1_D (n : Nat) (ar : List (A T)) : Option (List SLot) := match ar with
  | [a0, .fn _ []] => obind (argV (T := T) 89 a0) fun l0 => slices_SortFunc_impl_Lot_impl_Lot__impl_House_put_1 n l0
  | _ => none
def slices_SortFunc_impl_Lot_impl_Lot__impl_House_put_1_ent (n : Nat) : Ent T := ⟨205, 31, [206], List SLot, slices_SortFunc_impl_Lot_impl_Lot__impl_House_put_1_D n, slices_SortFunc_impl_Lot_impl_Lot__impl_House_put_1_enc⟩
def impl_House_put_D (n : Nat) (r0 : List (A T)) : Option SHouse := ocons r0 fun a0 r1 => ocons r1 fun a1 r2 => onil r2 (obind (argP (T := T) 92 a0) fun h0 => obind (argV (T := T) 116 a1) fun l1 => impl_House_put n h0 l1)
def impl_House_put_ent (n : Nat) : Ent T := ⟨145, 32, [], SHouse, impl_House_put_D n, impl_House_put_enc⟩
def impl_DoDeed_D (n : Nat) (r0 : List (A T)) : Option (SHouse × Int) := ocons r0 fun a0 r1 => ocons r1 fun a1 r2 => onil r2 (obind (argV (T := T) 92 a0) fun h0 => obind (argV (T := T) 96 a1) fun d1 => impl_DoDeed n h0 d1)
def impl_DoDeed_ent (n : Nat) : Ent T := ⟨52, 33, [], SHouse × Int, impl_DoDeed_D n, impl_DoDeed_enc⟩
def impl_own_int_D (n : Nat) (r0 : List (A T)) : Option (List Int) := ocons r0 fun a0 r1 => onil r1 (obind (argV (T := T) 23 a0) fun l0 => impl_own_int n l0)
def impl_own_int_ent (n : Nat) : Ent T := ⟨104, 34, [], List Int, impl_own_int_D n, impl_own_int_enc⟩
def impl_RunDeeds_D (n : Nat) (r0 : List (A T)) : Option (SHouse × List Int) := ocons r0 fun a0 r1 => ocons r1 fun a1 r2 => onil r2 (obind (argV (T := T) 92 a0) fun h0 => obind (argV (T := T) 105 a1) fun list1 => impl_RunDeeds n h0 list1)
def impl_RunDeeds_ent (n : Nat) : Ent T := ⟨59, 35, [], SHouse × List Int, impl_RunDeeds_D n, impl_RunDeeds_enc⟩
def laws_FnCustoms_D (n : Nat) (r0 : List (A T)) : Option Bool := ocons r0 fun a0 r1 => onil r1 (obind (argV (T := T) 70 a0) fun code0 => laws_FnCustoms n code0)
def laws_FnCustoms_ent (n : Nat) : Ent T := ⟨10, 36, [], Bool, laws_FnCustoms_D n, laws_FnCustoms_enc⟩
def ents (n : Nat) : List (Ent T) := [laws_big_ent n, spec_l1New_ent n, spec_l1Byte_ent n, spec_l1Below_ent n, spec_l1PickInt_ent n, spec_l16DrawDeed_ent n, spec_l16Copy_ent n, spec_l1In_ent n, spec_Duty6_ent n, spec_HouseOk_ent n, spec_l16Bad_ent n, spec_l16Find_ent n, spec_l16With_ent n, spec_l16From_ent n, spec_DoDeed_ent n, spec_l16Draw_ent n, spec_DrawHouse_ent n, impl_own_impl_Lot_ent n, impl_own_impl_Trader_ent n, impl_House_own_ent n, impl_in_ent n, impl_idRight_ent n, impl_lotRight_ent n, impl_Duty6_ent n, impl_Lot_duty_ent n, impl_HouseOk_ent n, impl_House_lot_1_ent n, slices_IndexFunc_impl_Lot_impl_Lot__impl_House_lot_1_ent n, impl_House_lot_ent n, impl_DoDeed_1_ent n, impl_House_put_1_ent n, slices_SortFunc_impl_Lot_impl_Lot__impl_House_put_1_ent n, impl_House_put_ent n, impl_DoDeed_ent n, impl_own_int_ent n, impl_RunDeeds_ent n, laws_FnCustoms_ent n]
abbrev Phi (n i : Nat) {R : Type} (f : Nat) (ar : List (A T)) (K : Res T → Option R) : Option R := PhiE (ents n) i f ar K
theorem mixed : Try.prog.follows .mixedOrders = true := by kernel_rfl
noncomputable def laws_big_code : Code := match Try.f42.body with | some c => c | none => .skip
def laws_big_ann : Ann := fun id => none
def laws_big_Ls (n : Nat) : Nat → Option (LSpec T) := fun id => none
theorem laws_big_tie (n : Nat) (code0 : List Int) : evF (T := T) (Phi n 0) (laws_big_Ls n) laws_big_ann n Try.f42 (sg 42) [vA T 70 code0] laws_big_dec = laws_big n code0 := by kernel_rfl
theorem laws_big_lo (n : Nat) : LoopsOk (T := T) (Phi n 0) (laws_big_Ls n) laws_big_ann n laws_big_code := loopsOk_all (cs := []) (by kernel_rfl) trivial
theorem laws_big_ok (n : Nat) : EntOk Try.prog (ents n) (laws_big_ent n) := by
  intro hs ar y hg h
  replace h : laws_big_D n ar = some y := h
  unfold laws_big_D at h
  replace h := ocons_some h
  obtain ⟨a0, r0, rfl, h⟩ := h
  replace h := onil_some h
  obtain ⟨rfl, h⟩ := h
  obtain ⟨code0, qh0, h⟩ := obind_some h
  rw [argV_eq ok qh0]
  exact call_of (phiE_nat _ _) hs ok mixed Try.func42 (c := laws_big_code) (by kernel_rfl) (laws_big_lo n) (by kernel_rfl) (by kernel_rfl) (by kernel_rfl) laws_big_de ((laws_big_tie n code0).trans h)
noncomputable def spec_l1New_code : Code := match Try.f126.body with | some c => c | none => .skip
def spec_l1New_3_sv : List Sv := [.one (.arr 5), .one (.int .i64), .one (.int .i64)]
def spec_l1New_3_so : List So := []
def spec_l1New_3_emb (c : List Int) (x : Int × Int) : EVs T spec_l1New_3_sv × EOs T spec_l1New_3_so := ((c, x.1, x.2, ()), ())
def spec_l1New_3_prj (y : EVs T spec_l1New_3_sv × EOs T spec_l1New_3_so) : List Int × (Int × Int) := ((y.1.1), (y.1.2.1, y.1.2.2.1))
def spec_l1New_3_b (n : Nat) {R : Type} (K : Ex → Sm.St T → Option R) (c : List Int) (x : Int × Int) (J : (Int × Int) → Option R) : Option R :=
  spec_l1New_L3 n (fun (y1 : Int) => K (.exit 0) (stOf (T := T) [0, 3] [] [.one (.arr 5), .one (.int .i64)] [] (c, y1, ()) ())) (fun z0 z1 => J (z0, z1)) c x.1 x.2
def spec_l1New_3_sp (n : Nat) : LSpec T := mkSpec T ⟨[], [0, 3, 4], []⟩ spec_l1New_3_sv spec_l1New_3_so (List Int) (Int × Int) spec_l1New_3_emb spec_l1New_3_prj (spec_l1New_3_b n)
noncomputable def spec_l1New_3_c : Code := ((loopCodes spec_l1New_code)[0]?).getD .skip
def spec_l1New_ann : Ann := fun id => bif Nat.beq id 3000003 then some ⟨[], [0, 3], []⟩ else none
def spec_l1New_Ls (n : Nat) : Nat → Option (LSpec T) := fun id => bif Nat.beq id 3 then some (spec_l1New_3_sp n) else none
theorem spec_l1New_3_le (n : Nat) : LoopEq (T := T) (Phi n 1) (spec_l1New_Ls n) spec_l1New_ann n spec_l1New_3_c (spec_l1New_3_sp n) := ⟨mkSpec_dec (fun y => rfl), fun c x => by kernel_rfl, fun K J c x => by kernel_rfl⟩
theorem spec_l1New_tie (n : Nat) (code0 : List Int) : evF (T := T) (Phi n 1) (spec_l1New_Ls n) spec_l1New_ann n Try.f126 (sg 126) [vA T 70 code0] spec_l1New_dec = spec_l1New n code0 := by kernel_rfl
theorem spec_l1New_lo (n : Nat) : LoopsOk (T := T) (Phi n 1) (spec_l1New_Ls n) spec_l1New_ann n spec_l1New_code := loopsOk_all (cs := [spec_l1New_3_c]) (by kernel_rfl) ⟨⟨_, by kernel_rfl, spec_l1New_3_le n⟩, trivial⟩
theorem spec_l1New_ok (n : Nat) : EntOk Try.prog (ents n) (spec_l1New_ent n) := by
  intro hs ar y hg h
  replace h : spec_l1New_D n ar = some y := h
  unfold spec_l1New_D at h
  replace h := ocons_some h
  obtain ⟨a0, r0, rfl, h⟩ := h
  replace h := onil_some h
  obtain ⟨rfl, h⟩ := h
  obtain ⟨code0, qh0, h⟩ := obind_some h
  rw [argV_eq ok qh0]
  exact call_of (phiE_nat _ _) hs ok mixed Try.func126 (c := spec_l1New_code) (by kernel_rfl) (spec_l1New_lo n) (by kernel_rfl) (by kernel_rfl) (by kernel_rfl) spec_l1New_de ((spec_l1New_tie n code0).trans h)
noncomputable def spec_l1Byte_code : Code := match Try.f194.body with | some c => c | none => .skip
def spec_l1Byte_ann : Ann := fun id => none
def spec_l1Byte_Ls (n : Nat) : Nat → Option (LSpec T) := fun id => none
theorem spec_l1Byte_tie (n : Nat) (c0 : Sl1Cur) : evF (T := T) (Phi n 2) (spec_l1Byte_Ls n) spec_l1Byte_ann n Try.f194 (sg 194) [.ptr 232 c0] spec_l1Byte_dec = spec_l1Byte n c0 := by kernel_rfl
theorem spec_l1Byte_lo (n : Nat) : LoopsOk (T := T) (Phi n 2) (spec_l1Byte_Ls n) spec_l1Byte_ann n spec_l1Byte_code := loopsOk_all (cs := []) (by kernel_rfl) trivial
theorem spec_l1Byte_ok (n : Nat) : EntOk Try.prog (ents n) (spec_l1Byte_ent n) := by
  intro hs ar y hg h
  replace h : spec_l1Byte_D n ar = some y := h
  unfold spec_l1Byte_D at h
  replace h := ocons_some h
  obtain ⟨a0, r0, rfl, h⟩ := h
  replace h := onil_some h
  obtain ⟨rfl, h⟩ := h
  obtain ⟨c0, qh0, h⟩ := obind_some h
  rw [argP_eq qh0]
  exact call_of (phiE_nat _ _) hs ok mixed Try.func194 (c := spec_l1Byte_code) (by kernel_rfl) (spec_l1Byte_lo n) (by kernel_rfl) (by kernel_rfl) (by kernel_rfl) spec_l1Byte_de ((spec_l1Byte_tie n c0).trans h)
noncomputable def spec_l1Below_code : Code := match Try.f128.body with | some c => c | none => .skip
def spec_l1Below_ann : Ann := fun id => none
def spec_l1Below_Ls (n : Nat) : Nat → Option (LSpec T) := fun id => none
theorem spec_l1Below_tie (n : Nat) (c0 : Sl1Cur) (n1 : Int) : evF (T := T) (Phi n 3) (spec_l1Below_Ls n) spec_l1Below_ann n Try.f128 (sg 128) [.ptr 232 c0, vA T 3 n1] spec_l1Below_dec = spec_l1Below n c0 n1 := by kernel_rfl
theorem spec_l1Below_lo (n : Nat) : LoopsOk (T := T) (Phi n 3) (spec_l1Below_Ls n) spec_l1Below_ann n spec_l1Below_code := loopsOk_all (cs := []) (by kernel_rfl) trivial
theorem spec_l1Below_ok (n : Nat) : EntOk Try.prog (ents n) (spec_l1Below_ent n) := by
  intro hs ar y hg h
  replace h : spec_l1Below_D n ar = some y := h
  unfold spec_l1Below_D at h
  replace h := ocons_some h
  obtain ⟨a0, r0, rfl, h⟩ := h
  replace h := ocons_some h
  obtain ⟨a1, r1, rfl, h⟩ := h
  replace h := onil_some h
  obtain ⟨rfl, h⟩ := h
  obtain ⟨c0, qh0, h⟩ := obind_some h
  obtain ⟨n1, qh1, h⟩ := obind_some h
  rw [argP_eq qh0, argV_eq ok qh1]
  exact call_of (phiE_nat _ _) hs ok mixed Try.func128 (c := spec_l1Below_code) (by kernel_rfl) (spec_l1Below_lo n) (by kernel_rfl) (by kernel_rfl) (by kernel_rfl) spec_l1Below_de ((spec_l1Below_tie n c0 n1).trans h)
noncomputable def spec_l1PickInt_code : Code := match Try.f197.body with | some c => c | none => .skip
def spec_l1PickInt_ann : Ann := fun id => none
def spec_l1PickInt_Ls (n : Nat) : Nat → Option (LSpec T) := fun id => none
theorem spec_l1PickInt_tie (n : Nat) (c0 : Sl1Cur) (list1 : List Int) : evF (T := T) (Phi n 4) (spec_l1PickInt_Ls n) spec_l1PickInt_ann n Try.f197 (sg 197) [.ptr 232 c0, vA T 23 list1] spec_l1PickInt_dec = spec_l1PickInt n c0 list1 := by kernel_rfl
theorem spec_l1PickInt_lo (n : Nat) : LoopsOk (T := T) (Phi n 4) (spec_l1PickInt_Ls n) spec_l1PickInt_ann n spec_l1PickInt_code := loopsOk_all (cs := []) (by kernel_rfl) trivial
theorem spec_l1PickInt_ok (n : Nat) : EntOk Try.prog (ents n) (spec_l1PickInt_ent n) := by
  intro hs ar y hg h
  replace h : spec_l1PickInt_D n ar = some y := h
  unfold spec_l1PickInt_D at h
  replace h := ocons_some h
  obtain ⟨a0, r0, rfl, h⟩ := h
  replace h := ocons_some h
  obtain ⟨a1, r1, rfl, h⟩ := h
  replace h := onil_some h
  obtain ⟨rfl, h⟩ := h
  obtain ⟨c0, qh0, h⟩ := obind_some h
  obtain ⟨list1, qh1, h⟩ := obind_some h
  rw [argP_eq qh0, argV_eq ok qh1]
  exact call_of (phiE_nat _ _) hs ok mixed Try.func197 (c := spec_l1PickInt_code) (by kernel_rfl) (spec_l1PickInt_lo n) (by kernel_rfl) (by kernel_rfl) (by kernel_rfl) spec_l1PickInt_de ((spec_l1PickInt_tie n c0 list1).trans h)
noncomputable def spec_l16DrawDeed_code : Code := match Try.f155.body with | some c => c | none => .skip
def spec_l16DrawDeed_ann : Ann := fun id => none
def spec_l16DrawDeed_Ls (n : Nat) : Nat → Option (LSpec T) := fun id => none
theorem spec_l16DrawDeed_tie (n : Nat) (c0 : Sl1Cur) : evF (T := T) (Phi n 5) (spec_l16DrawDeed_Ls n) spec_l16DrawDeed_ann n Try.f155 (sg 155) [.ptr 232 c0] spec_l16DrawDeed_dec = spec_l16DrawDeed n c0 := by kernel_rfl
theorem spec_l16DrawDeed_lo (n : Nat) : LoopsOk (T := T) (Phi n 5) (spec_l16DrawDeed_Ls n) spec_l16DrawDeed_ann n spec_l16DrawDeed_code := loopsOk_all (cs := []) (by kernel_rfl) trivial
theorem spec_l16DrawDeed_ok (n : Nat) : EntOk Try.prog (ents n) (spec_l16DrawDeed_ent n) := by
  intro hs ar y hg h
  replace h : spec_l16DrawDeed_D n ar = some y := h
  unfold spec_l16DrawDeed_D at h
  replace h := ocons_some h
  obtain ⟨a0, r0, rfl, h⟩ := h
  replace h := onil_some h
  obtain ⟨rfl, h⟩ := h
  obtain ⟨c0, qh0, h⟩ := obind_some h
  rw [argP_eq qh0]
  exact call_of (phiE_nat _ _) hs ok mixed Try.func155 (c := spec_l16DrawDeed_code) (by kernel_rfl) (spec_l16DrawDeed_lo n) (by kernel_rfl) (by kernel_rfl) (by kernel_rfl) spec_l16DrawDeed_de ((spec_l16DrawDeed_tie n c0).trans h)
noncomputable def spec_l16Copy_code : Code := match Try.f133.body with | some c => c | none => .skip
def spec_l16Copy_ann : Ann := fun id => none
def spec_l16Copy_Ls (n : Nat) : Nat → Option (LSpec T) := fun id => none
theorem spec_l16Copy_tie (n : Nat) (h0 : SHouse) : evF (T := T) (Phi n 6) (spec_l16Copy_Ls n) spec_l16Copy_ann n Try.f133 (sg 133) [vA T 92 h0] spec_l16Copy_dec = spec_l16Copy n h0 := by kernel_rfl
theorem spec_l16Copy_lo (n : Nat) : LoopsOk (T := T) (Phi n 6) (spec_l16Copy_Ls n) spec_l16Copy_ann n spec_l16Copy_code := loopsOk_all (cs := []) (by kernel_rfl) trivial
theorem spec_l16Copy_ok (n : Nat) : EntOk Try.prog (ents n) (spec_l16Copy_ent n) := by
  intro hs ar y hg h
  replace h : spec_l16Copy_D n ar = some y := h
  unfold spec_l16Copy_D at h
  replace h := ocons_some h
  obtain ⟨a0, r0, rfl, h⟩ := h
  replace h := onil_some h
  obtain ⟨rfl, h⟩ := h
  obtain ⟨h0, qh0, h⟩ := obind_some h
  rw [argV_eq ok qh0]
  exact call_of (phiE_nat _ _) hs ok mixed Try.func133 (c := spec_l16Copy_code) (by kernel_rfl) (spec_l16Copy_lo n) (by kernel_rfl) (by kernel_rfl) (by kernel_rfl) spec_l16Copy_de ((spec_l16Copy_tie n h0).trans h)
noncomputable def spec_l1In_code : Code := match Try.f174.body with | some c => c | none => .skip
def spec_l1In_ann : Ann := fun id => none
def spec_l1In_Ls (n : Nat) : Nat → Option (LSpec T) := fun id => none
theorem spec_l1In_tie (n : Nat) (x0 : Int) (a1 : Int) (b2 : Int) : evF (T := T) (Phi n 7) (spec_l1In_Ls n) spec_l1In_ann n Try.f174 (sg 174) [vA T 3 x0, vA T 3 a1, vA T 3 b2] spec_l1In_dec = spec_l1In n x0 a1 b2 := by kernel_rfl
theorem spec_l1In_lo (n : Nat) : LoopsOk (T := T) (Phi n 7) (spec_l1In_Ls n) spec_l1In_ann n spec_l1In_code := loopsOk_all (cs := []) (by kernel_rfl) trivial
theorem spec_l1In_ok (n : Nat) : EntOk Try.prog (ents n) (spec_l1In_ent n) := by
  intro hs ar y hg h
  replace h : spec_l1In_D n ar = some y := h
  unfold spec_l1In_D at h
  replace h := ocons_some h
  obtain ⟨a0, r0, rfl, h⟩ := h
  replace h := ocons_some h
  obtain ⟨a1, r1, rfl, h⟩ := h
  replace h := ocons_some h
  obtain ⟨a2, r2, rfl, h⟩ := h
  replace h := onil_some h
  obtain ⟨rfl, h⟩ := h
  obtain ⟨x0, qh0, h⟩ := obind_some h
  obtain ⟨a1, qh1, h⟩ := obind_some h
  obtain ⟨b2, qh2, h⟩ := obind_some h
  rw [argV_eq ok qh0, argV_eq ok qh1, argV_eq ok qh2]
  exact call_of (phiE_nat _ _) hs ok mixed Try.func174 (c := spec_l1In_code) (by kernel_rfl) (spec_l1In_lo n) (by kernel_rfl) (by kernel_rfl) (by kernel_rfl) spec_l1In_de ((spec_l1In_tie n x0 a1 b2).trans h)
noncomputable def spec_Duty6_code : Code := match Try.f138.body with | some c => c | none => .skip
def spec_Duty6_ann : Ann := fun id => none
def spec_Duty6_Ls (n : Nat) : Nat → Option (LSpec T) := fun id => none
theorem spec_Duty6_tie (n : Nat) (many0 : Int) (value1 : Int) (rate2 : Int) : evF (T := T) (Phi n 8) (spec_Duty6_Ls n) spec_Duty6_ann n Try.f138 (sg 138) [vA T 3 many0, vA T 3 value1, vA T 3 rate2] spec_Duty6_dec = spec_Duty6 n many0 value1 rate2 := by kernel_rfl
theorem spec_Duty6_lo (n : Nat) : LoopsOk (T := T) (Phi n 8) (spec_Duty6_Ls n) spec_Duty6_ann n spec_Duty6_code := loopsOk_all (cs := []) (by kernel_rfl) trivial
theorem spec_Duty6_ok (n : Nat) : EntOk Try.prog (ents n) (spec_Duty6_ent n) := by
  intro hs ar y hg h
  replace h : spec_Duty6_D n ar = some y := h
  unfold spec_Duty6_D at h
  replace h := ocons_some h
  obtain ⟨a0, r0, rfl, h⟩ := h
  replace h := ocons_some h
  obtain ⟨a1, r1, rfl, h⟩ := h
  replace h := ocons_some h
  obtain ⟨a2, r2, rfl, h⟩ := h
  replace h := onil_some h
  obtain ⟨rfl, h⟩ := h
  obtain ⟨many0, qh0, h⟩ := obind_some h
  obtain ⟨value1, qh1, h⟩ := obind_some h
  obtain ⟨rate2, qh2, h⟩ := obind_some h
  rw [argV_eq ok qh0, argV_eq ok qh1, argV_eq ok qh2]
  exact call_of (phiE_nat _ _) hs ok mixed Try.func138 (c := spec_Duty6_code) (by kernel_rfl) (spec_Duty6_lo n) (by kernel_rfl) (by kernel_rfl) (by kernel_rfl) spec_Duty6_de ((spec_Duty6_tie n many0 value1 rate2).trans h)
noncomputable def spec_HouseOk_code : Code := match Try.f172.body with | some c => c | none => .skip
def spec_HouseOk_5_sv : List Sv := [.one (.ptr 8 0 0), .one (.own 3000000 3 false), .one (.int .i64)]
def spec_HouseOk_5_so : List So := [.var [.arr 116, .arr 114, .int .i64], .arr 3 false]
def spec_HouseOk_5_emb (c : SHouse) (x : Int × List Int) : EVs T spec_HouseOk_5_sv × EOs T spec_HouseOk_5_so := (((), (), x.1, ()), ((c.Lots, c.Traders, c.Taken, ()), x.2, ()))
def spec_HouseOk_5_prj (y : EVs T spec_HouseOk_5_sv × EOs T spec_HouseOk_5_so) : SHouse × (Int × List Int) := ((((⟨y.2.1.1, y.2.1.2.1, y.2.1.2.2.1⟩ : SHouse) : SHouse)), (y.1.2.2.1, y.2.2.1))
def spec_HouseOk_5_b (n : Nat) {R : Type} (K : Ex → Sm.St T → Option R) (c : SHouse) (x : Int × List Int) (J : (Int × List Int) → Option R) : Option R :=
  spec_HouseOk_L5 n (fun (y1 : List Int) => K (.exit 0) (stOf (T := T) [1, 3] [8, 3000000] [.one (.ptr 8 0 0), .one (.own 3000000 3 false)] [.var [.arr 116, .arr 114, .int .i64], .arr 3 false] ((), (), ()) ((c.Lots, c.Traders, c.Taken, ()), y1, ()))) (fun (y0 : Bool) => K .ret (stOf (T := T) [2] [] [.one (.bool)] [] (y0, ()) ())) (fun z0 z1 => J (z0, z1)) x.1 c x.2
def spec_HouseOk_5_sp (n : Nat) : LSpec T := mkSpec T ⟨[((.reg 3), 3000000, 3)], [1, 3, 4], [8, 3000000]⟩ spec_HouseOk_5_sv spec_HouseOk_5_so (SHouse) (Int × List Int) spec_HouseOk_5_emb spec_HouseOk_5_prj (spec_HouseOk_5_b n)
noncomputable def spec_HouseOk_5_c : Code := ((loopCodes spec_HouseOk_code)[0]?).getD .skip
def spec_HouseOk_17_sv : List Sv := [.one (.ptr 8 0 0), .one (.own 3000000 3 false), .one (.int .i64)]
def spec_HouseOk_17_so : List So := [.var [.arr 116, .arr 114, .int .i64], .arr 3 false]
def spec_HouseOk_17_emb (c : SHouse × List Int) (x : Int) : EVs T spec_HouseOk_17_sv × EOs T spec_HouseOk_17_so := (((), (), x, ()), ((c.1.Lots, c.1.Traders, c.1.Taken, ()), c.2, ()))
def spec_HouseOk_17_prj (y : EVs T spec_HouseOk_17_sv × EOs T spec_HouseOk_17_so) : (SHouse × List Int) × Int := ((((⟨y.2.1.1, y.2.1.2.1, y.2.1.2.2.1⟩ : SHouse) : SHouse), y.2.2.1), (y.1.2.2.1))
def spec_HouseOk_17_b (n : Nat) {R : Type} (K : Ex → Sm.St T → Option R) (c : SHouse × List Int) (x : Int) (J : Int → Option R) : Option R :=
  spec_HouseOk_L17 n (K (.exit 2) (stOf (T := T) [] [] [] [] () ())) (fun (y0 : Bool) => K .ret (stOf (T := T) [2] [] [.one (.bool)] [] (y0, ()) ())) J x c.1 c.2
def spec_HouseOk_17_sp (n : Nat) : LSpec T := mkSpec T ⟨[((.reg 3), 3000000, 3)], [1, 3, 8], [8, 3000000]⟩ spec_HouseOk_17_sv spec_HouseOk_17_so (SHouse × List Int) (Int) spec_HouseOk_17_emb spec_HouseOk_17_prj (spec_HouseOk_17_b n)
noncomputable def spec_HouseOk_17_c : Code := ((loopCodes spec_HouseOk_code)[1]?).getD .skip
def spec_HouseOk_ann : Ann := fun id => bif Nat.beq id 3000005 then some ⟨[((.reg 3), 3000000, 3)], [1, 3], [8, 3000000]⟩ else bif Nat.beq id 2000005 then some ⟨[], [2], []⟩ else bif Nat.beq id 5000017 then some ⟨[], [], []⟩ else bif Nat.beq id 2000017 then some ⟨[], [2], []⟩ else none
def spec_HouseOk_Ls (n : Nat) : Nat → Option (LSpec T) := fun id => bif Nat.beq id 5 then some (spec_HouseOk_5_sp n) else bif Nat.beq id 17 then some (spec_HouseOk_17_sp n) else none
theorem spec_HouseOk_5_le (n : Nat) : LoopEq (T := T) (Phi n 9) (spec_HouseOk_Ls n) spec_HouseOk_ann n spec_HouseOk_5_c (spec_HouseOk_5_sp n) := ⟨mkSpec_dec (fun y => rfl), fun c x => by kernel_rfl, fun K J c x => by kernel_rfl⟩
theorem spec_HouseOk_17_le (n : Nat) : LoopEq (T := T) (Phi n 9) (spec_HouseOk_Ls n) spec_HouseOk_ann n spec_HouseOk_17_c (spec_HouseOk_17_sp n) := ⟨mkSpec_dec (fun y => rfl), fun c x => by kernel_rfl, fun K J c x => by kernel_rfl⟩
theorem spec_HouseOk_tie (n : Nat) (h0 : SHouse) : evF (T := T) (Phi n 9) (spec_HouseOk_Ls n) spec_HouseOk_ann n Try.f172 (sg 172) [vA T 92 h0] spec_HouseOk_dec = spec_HouseOk n h0 := by kernel_rfl
theorem spec_HouseOk_lo (n : Nat) : LoopsOk (T := T) (Phi n 9) (spec_HouseOk_Ls n) spec_HouseOk_ann n spec_HouseOk_code := loopsOk_all (cs := [spec_HouseOk_5_c, spec_HouseOk_17_c]) (by kernel_rfl) ⟨⟨_, by kernel_rfl, spec_HouseOk_5_le n⟩, ⟨_, by kernel_rfl, spec_HouseOk_17_le n⟩, trivial⟩
theorem spec_HouseOk_ok (n : Nat) : EntOk Try.prog (ents n) (spec_HouseOk_ent n) := by
  intro hs ar y hg h
  replace h : spec_HouseOk_D n ar = some y := h
  unfold spec_HouseOk_D at h
  replace h := ocons_some h
  obtain ⟨a0, r0, rfl, h⟩ := h
  replace h := onil_some h
  obtain ⟨rfl, h⟩ := h
  obtain ⟨h0, qh0, h⟩ := obind_some h
  rw [argV_eq ok qh0]
  exact call_of (phiE_nat _ _) hs ok mixed Try.func172 (c := spec_HouseOk_code) (by kernel_rfl) (spec_HouseOk_lo n) (by kernel_rfl) (by kernel_rfl) (by kernel_rfl) spec_HouseOk_de ((spec_HouseOk_tie n h0).trans h)
noncomputable def spec_l16Bad_code : Code := match Try.f134.body with | some c => c | none => .skip
def spec_l16Bad_ann : Ann := fun id => none
def spec_l16Bad_Ls (n : Nat) : Nat → Option (LSpec T) := fun id => none
theorem spec_l16Bad_tie (n : Nat) (h0 : SHouse) (d1 : SDeed) : evF (T := T) (Phi n 10) (spec_l16Bad_Ls n) spec_l16Bad_ann n Try.f134 (sg 134) [vA T 92 h0, vA T 96 d1] spec_l16Bad_dec = spec_l16Bad n h0 d1 := by kernel_rfl
theorem spec_l16Bad_lo (n : Nat) : LoopsOk (T := T) (Phi n 10) (spec_l16Bad_Ls n) spec_l16Bad_ann n spec_l16Bad_code := loopsOk_all (cs := []) (by kernel_rfl) trivial
theorem spec_l16Bad_ok (n : Nat) : EntOk Try.prog (ents n) (spec_l16Bad_ent n) := by
  intro hs ar y hg h
  replace h : spec_l16Bad_D n ar = some y := h
  unfold spec_l16Bad_D at h
  replace h := ocons_some h
  obtain ⟨a0, r0, rfl, h⟩ := h
  replace h := ocons_some h
  obtain ⟨a1, r1, rfl, h⟩ := h
  replace h := onil_some h
  obtain ⟨rfl, h⟩ := h
  obtain ⟨h0, qh0, h⟩ := obind_some h
  obtain ⟨d1, qh1, h⟩ := obind_some h
  rw [argV_eq ok qh0, argV_eq ok qh1]
  exact call_of (phiE_nat _ _) hs ok mixed Try.func134 (c := spec_l16Bad_code) (by kernel_rfl) (spec_l16Bad_lo n) (by kernel_rfl) (by kernel_rfl) (by kernel_rfl) spec_l16Bad_de ((spec_l16Bad_tie n h0 d1).trans h)
noncomputable def spec_l16Find_code : Code := match Try.f135.body with | some c => c | none => .skip
def spec_l16Find_2_sv : List Sv := [.one (.int .i64), .one (.ptr 16 0 0), .one (.int .i64)]
def spec_l16Find_2_so : List So := [.var [.arr 116, .arr 114, .int .i64]]
def spec_l16Find_2_emb (c : Int × SHouse) (x : Int) : EVs T spec_l16Find_2_sv × EOs T spec_l16Find_2_so := ((c.1, (), x, ()), ((c.2.Lots, c.2.Traders, c.2.Taken, ()), ()))
def spec_l16Find_2_prj (y : EVs T spec_l16Find_2_sv × EOs T spec_l16Find_2_so) : (Int × SHouse) × Int := ((y.1.1, ((⟨y.2.1.1, y.2.1.2.1, y.2.1.2.2.1⟩ : SHouse) : SHouse)), (y.1.2.2.1))
def spec_l16Find_2_b (n : Nat) {R : Type} (K : Ex → Sm.St T → Option R) (c : Int × SHouse) (x : Int) (J : Int → Option R) : Option R :=
  spec_l16Find_L2 n (K (.exit 0) (stOf (T := T) [] [] [] [] () ())) (fun (y0 : Int) => K .ret (stOf (T := T) [4] [] [.one (.int .i64)] [] (y0, ()) ())) J c.1 x c.2
def spec_l16Find_2_sp (n : Nat) : LSpec T := mkSpec T ⟨[], [1, 2, 5], [16]⟩ spec_l16Find_2_sv spec_l16Find_2_so (Int × SHouse) (Int) spec_l16Find_2_emb spec_l16Find_2_prj (spec_l16Find_2_b n)
noncomputable def spec_l16Find_2_c : Code := ((loopCodes spec_l16Find_code)[0]?).getD .skip
def spec_l16Find_ann : Ann := fun id => bif Nat.beq id 3000002 then some ⟨[], [], []⟩ else bif Nat.beq id 2000002 then some ⟨[], [4], []⟩ else none
def spec_l16Find_Ls (n : Nat) : Nat → Option (LSpec T) := fun id => bif Nat.beq id 2 then some (spec_l16Find_2_sp n) else none
theorem spec_l16Find_2_le (n : Nat) : LoopEq (T := T) (Phi n 11) (spec_l16Find_Ls n) spec_l16Find_ann n spec_l16Find_2_c (spec_l16Find_2_sp n) := ⟨mkSpec_dec (fun y => rfl), fun c x => by kernel_rfl, fun K J c x => by kernel_rfl⟩
theorem spec_l16Find_tie (n : Nat) (h0 : SHouse) (id1 : Int) : evF (T := T) (Phi n 11) (spec_l16Find_Ls n) spec_l16Find_ann n Try.f135 (sg 135) [vA T 92 h0, vA T 3 id1] spec_l16Find_dec = spec_l16Find n h0 id1 := by kernel_rfl
theorem spec_l16Find_lo (n : Nat) : LoopsOk (T := T) (Phi n 11) (spec_l16Find_Ls n) spec_l16Find_ann n spec_l16Find_code := loopsOk_all (cs := [spec_l16Find_2_c]) (by kernel_rfl) ⟨⟨_, by kernel_rfl, spec_l16Find_2_le n⟩, trivial⟩
theorem spec_l16Find_ok (n : Nat) : EntOk Try.prog (ents n) (spec_l16Find_ent n) := by
  intro hs ar y hg h
  replace h : spec_l16Find_D n ar = some y := h
  unfold spec_l16Find_D at h
  replace h := ocons_some h
  obtain ⟨a0, r0, rfl, h⟩ := h
  replace h := ocons_some h
  obtain ⟨a1, r1, rfl, h⟩ := h
  replace h := onil_some h
  obtain ⟨rfl, h⟩ := h
  obtain ⟨h0, qh0, h⟩ := obind_some h
  obtain ⟨id1, qh1, h⟩ := obind_some h
  rw [argV_eq ok qh0, argV_eq ok qh1]
  exact call_of (phiE_nat _ _) hs ok mixed Try.func135 (c := spec_l16Find_code) (by kernel_rfl) (spec_l16Find_lo n) (by kernel_rfl) (by kernel_rfl) (by kernel_rfl) spec_l16Find_de ((spec_l16Find_tie n h0 id1).trans h)
noncomputable def spec_l16With_code : Code := match Try.f136.body with | some c => c | none => .skip
def spec_l16With_2_sv : List Sv := [.one (.ptr 16 0 0), .one (.ptr 24 0 0), .one (.ptr 32 0 0), .one (.int .i64)]
def spec_l16With_2_so : List So := [.var [.arr 116, .arr 114, .int .i64], .var [.int .i64, .int .i64, .int .i64, .int .i64, .int .i64, .int .i64, .int .i64], .var [.own 3000000 116 false, .own 3000001 114 false, .int .i64], .arr 116 false, .arr 114 false]
def spec_l16With_2_emb (c : SHouse × SLot × Int × List SLot × List STrader) (x : Int) : EVs T spec_l16With_2_sv × EOs T spec_l16With_2_so := (((), (), (), x, ()), ((c.1.Lots, c.1.Traders, c.1.Taken, ()), (c.2.1.Id, c.2.1.Owner, c.2.1.Many, c.2.1.Value, c.2.1.Rate, c.2.1.State, c.2.1.Bond, ()), ((), (), c.2.2.1, ()), c.2.2.2.1, c.2.2.2.2, ()))
def spec_l16With_2_prj (y : EVs T spec_l16With_2_sv × EOs T spec_l16With_2_so) : (SHouse × SLot × Int × List SLot × List STrader) × Int := ((((⟨y.2.1.1, y.2.1.2.1, y.2.1.2.2.1⟩ : SHouse) : SHouse), ((⟨y.2.2.1.1, y.2.2.1.2.1, y.2.2.1.2.2.1, y.2.2.1.2.2.2.1, y.2.2.1.2.2.2.2.1, y.2.2.1.2.2.2.2.2.1, y.2.2.1.2.2.2.2.2.2.1⟩ : SLot) : SLot), y.2.2.2.1.2.2.1, y.2.2.2.2.1, y.2.2.2.2.2.1), (y.1.2.2.2.1))
def spec_l16With_2_b (n : Nat) {R : Type} (K : Ex → Sm.St T → Option R) (c : SHouse × SLot × Int × List SLot × List STrader) (x : Int) (J : Int → Option R) : Option R :=
  spec_l16With_L2 n (fun (y0 : Int) => K (.exit 0) (stOf (T := T) [2, 3, 4, 5] [16, 24, 32, 3000000, 3000001] [.one (.ptr 16 0 0), .one (.ptr 24 0 0), .one (.ptr 32 0 0), .one (.int .i64)] [.var [.arr 116, .arr 114, .int .i64], .var [.int .i64, .int .i64, .int .i64, .int .i64, .int .i64, .int .i64, .int .i64], .var [.own 3000000 116 false, .own 3000001 114 false, .int .i64], .arr 116 false, .arr 114 false] ((), (), (), y0, ()) ((c.1.Lots, c.1.Traders, c.1.Taken, ()), (c.2.1.Id, c.2.1.Owner, c.2.1.Many, c.2.1.Value, c.2.1.Rate, c.2.1.State, c.2.1.Bond, ()), ((), (), c.2.2.1, ()), c.2.2.2.1, c.2.2.2.2, ()))) J x c.1 c.2.1 c.2.2.1 c.2.2.2.1 c.2.2.2.2
def spec_l16With_2_sp (n : Nat) : LSpec T := mkSpec T ⟨[((.cell 32 0), 3000000, 116), ((.cell 32 1), 3000001, 114)], [2, 3, 4, 5], [16, 24, 32, 3000000, 3000001]⟩ spec_l16With_2_sv spec_l16With_2_so (SHouse × SLot × Int × List SLot × List STrader) (Int) spec_l16With_2_emb spec_l16With_2_prj (spec_l16With_2_b n)
noncomputable def spec_l16With_2_c : Code := ((loopCodes spec_l16With_code)[0]?).getD .skip
def spec_l16With_ann : Ann := fun id => bif Nat.beq id 3000002 then some ⟨[((.cell 32 0), 3000000, 116), ((.cell 32 1), 3000001, 114)], [2, 3, 4, 5], [16, 24, 32, 3000000, 3000001]⟩ else none
def spec_l16With_Ls (n : Nat) : Nat → Option (LSpec T) := fun id => bif Nat.beq id 2 then some (spec_l16With_2_sp n) else none
theorem spec_l16With_2_le (n : Nat) : LoopEq (T := T) (Phi n 12) (spec_l16With_Ls n) spec_l16With_ann n spec_l16With_2_c (spec_l16With_2_sp n) := ⟨mkSpec_dec (fun y => rfl), fun c x => by kernel_rfl, fun K J c x => by kernel_rfl⟩
theorem spec_l16With_tie (n : Nat) (h0 : SHouse) (x1 : SLot) : evF (T := T) (Phi n 12) (spec_l16With_Ls n) spec_l16With_ann n Try.f136 (sg 136) [vA T 92 h0, vA T 116 x1] spec_l16With_dec = spec_l16With n h0 x1 := by kernel_rfl
theorem spec_l16With_lo (n : Nat) : LoopsOk (T := T) (Phi n 12) (spec_l16With_Ls n) spec_l16With_ann n spec_l16With_code := loopsOk_all (cs := [spec_l16With_2_c]) (by kernel_rfl) ⟨⟨_, by kernel_rfl, spec_l16With_2_le n⟩, trivial⟩
theorem spec_l16With_ok (n : Nat) : EntOk Try.prog (ents n) (spec_l16With_ent n) := by
  intro hs ar y hg h
  replace h : spec_l16With_D n ar = some y := h
  unfold spec_l16With_D at h
  replace h := ocons_some h
  obtain ⟨a0, r0, rfl, h⟩ := h
  replace h := ocons_some h
  obtain ⟨a1, r1, rfl, h⟩ := h
  replace h := onil_some h
  obtain ⟨rfl, h⟩ := h
  obtain ⟨h0, qh0, h⟩ := obind_some h
  obtain ⟨x1, qh1, h⟩ := obind_some h
  rw [argV_eq ok qh0, argV_eq ok qh1]
  exact call_of (phiE_nat _ _) hs ok mixed Try.func136 (c := spec_l16With_code) (by kernel_rfl) (spec_l16With_lo n) (by kernel_rfl) (by kernel_rfl) (by kernel_rfl) spec_l16With_de ((spec_l16With_tie n h0 x1).trans h)
noncomputable def spec_l16From_code : Code := match Try.f137.body with | some c => c | none => .skip
def spec_l16From_ann : Ann := fun id => none
def spec_l16From_Ls (n : Nat) : Nat → Option (LSpec T) := fun id => none
theorem spec_l16From_tie (n : Nat) (kind0 : Int) : evF (T := T) (Phi n 13) (spec_l16From_Ls n) spec_l16From_ann n Try.f137 (sg 137) [vA T 3 kind0] spec_l16From_dec = spec_l16From n kind0 := by kernel_rfl
theorem spec_l16From_lo (n : Nat) : LoopsOk (T := T) (Phi n 13) (spec_l16From_Ls n) spec_l16From_ann n spec_l16From_code := loopsOk_all (cs := []) (by kernel_rfl) trivial
theorem spec_l16From_ok (n : Nat) : EntOk Try.prog (ents n) (spec_l16From_ent n) := by
  intro hs ar y hg h
  replace h : spec_l16From_D n ar = some y := h
  unfold spec_l16From_D at h
  replace h := ocons_some h
  obtain ⟨a0, r0, rfl, h⟩ := h
  replace h := onil_some h
  obtain ⟨rfl, h⟩ := h
  obtain ⟨kind0, qh0, h⟩ := obind_some h
  rw [argV_eq ok qh0]
  exact call_of (phiE_nat _ _) hs ok mixed Try.func137 (c := spec_l16From_code) (by kernel_rfl) (spec_l16From_lo n) (by kernel_rfl) (by kernel_rfl) (by kernel_rfl) spec_l16From_de ((spec_l16From_tie n kind0).trans h)
noncomputable def spec_DoDeed_code : Code := match Try.f49.body with | some c => c | none => .skip
def spec_DoDeed_ann : Ann := fun id => none
def spec_DoDeed_Ls (n : Nat) : Nat → Option (LSpec T) := fun id => none
theorem spec_DoDeed_tie (n : Nat) (h0 : SHouse) (d1 : SDeed) : evF (T := T) (Phi n 14) (spec_DoDeed_Ls n) spec_DoDeed_ann n Try.f49 (sg 49) [vA T 92 h0, vA T 96 d1] spec_DoDeed_dec = spec_DoDeed n h0 d1 := by kernel_rfl
theorem spec_DoDeed_lo (n : Nat) : LoopsOk (T := T) (Phi n 14) (spec_DoDeed_Ls n) spec_DoDeed_ann n spec_DoDeed_code := loopsOk_all (cs := []) (by kernel_rfl) trivial
theorem spec_DoDeed_ok (n : Nat) : EntOk Try.prog (ents n) (spec_DoDeed_ent n) := by
  intro hs ar y hg h
  replace h : spec_DoDeed_D n ar = some y := h
  unfold spec_DoDeed_D at h
  replace h := ocons_some h
  obtain ⟨a0, r0, rfl, h⟩ := h
  replace h := ocons_some h
  obtain ⟨a1, r1, rfl, h⟩ := h
  replace h := onil_some h
  obtain ⟨rfl, h⟩ := h
  obtain ⟨h0, qh0, h⟩ := obind_some h
  obtain ⟨d1, qh1, h⟩ := obind_some h
  rw [argV_eq ok qh0, argV_eq ok qh1]
  exact call_of (phiE_nat _ _) hs ok mixed Try.func49 (c := spec_DoDeed_code) (by kernel_rfl) (spec_DoDeed_lo n) (by kernel_rfl) (by kernel_rfl) (by kernel_rfl) spec_DoDeed_de ((spec_DoDeed_tie n h0 d1).trans h)
noncomputable def spec_l16Draw_code : Code := match Try.f154.body with | some c => c | none => .skip
def spec_l16Draw_3_sv : List Sv := [.one (.ptr 4503599627370496 0 0), .one (.ptr 16 0 0), .one (.ptr 24 0 0), .one (.int .i64)]
def spec_l16Draw_3_so : List So := [.var [.arr 5, .int .i64, .int .i64], .var [.own 3000000 116 false, .own 3000001 114 false, .int .i64], .arr 116 false, .arr 114 false, .var [.own 3000002 116 false, .own 3000003 114 false, .int .i64], .arr 116 false, .arr 114 false]
def spec_l16Draw_3_emb (c : Int × List SLot × List STrader × Int × List SLot) (x : Int × Sl1Cur × List STrader) : EVs T spec_l16Draw_3_sv × EOs T spec_l16Draw_3_so := (((), (), (), x.1, ()), ((x.2.1.b, x.2.1.i, x.2.1.h, ()), ((), (), c.1, ()), c.2.1, c.2.2.1, ((), (), c.2.2.2.1, ()), c.2.2.2.2, x.2.2, ()))
def spec_l16Draw_3_prj (y : EVs T spec_l16Draw_3_sv × EOs T spec_l16Draw_3_so) : (Int × List SLot × List STrader × Int × List SLot) × (Int × Sl1Cur × List STrader) := ((y.2.2.1.2.2.1, y.2.2.2.1, y.2.2.2.2.1, y.2.2.2.2.2.1.2.2.1, y.2.2.2.2.2.2.1), (y.1.2.2.2.1, ((⟨y.2.1.1, y.2.1.2.1, y.2.1.2.2.1⟩ : Sl1Cur) : Sl1Cur), y.2.2.2.2.2.2.2.1))
def spec_l16Draw_3_b (n : Nat) {R : Type} (K : Ex → Sm.St T → Option R) (c : Int × List SLot × List STrader × Int × List SLot) (x : Int × Sl1Cur × List STrader) (J : (Int × Sl1Cur × List STrader) → Option R) : Option R :=
  spec_l16Draw_L3 n (fun (y0 : Sl1Cur) (y6 : List STrader) => K (.exit 0) (stOf (T := T) [0, 2, 3] [4503599627370496, 16, 3000000, 3000001, 24, 3000002, 3000003] [.one (.ptr 4503599627370496 0 0), .one (.ptr 16 0 0), .one (.ptr 24 0 0)] [.var [.arr 5, .int .i64, .int .i64], .var [.own 3000000 116 false, .own 3000001 114 false, .int .i64], .arr 116 false, .arr 114 false, .var [.own 3000002 116 false, .own 3000003 114 false, .int .i64], .arr 116 false, .arr 114 false] ((), (), (), ()) ((y0.b, y0.i, y0.h, ()), ((), (), c.1, ()), c.2.1, c.2.2.1, ((), (), c.2.2.2.1, ()), c.2.2.2.2, y6, ()))) (fun z0 z1 z2 => J (z0, z1, z2)) x.1 x.2.1 c.1 c.2.1 c.2.2.1 c.2.2.2.1 c.2.2.2.2 x.2.2
def spec_l16Draw_3_sp (n : Nat) : LSpec T := mkSpec T ⟨[((.cell 16 0), 3000000, 116), ((.cell 16 1), 3000001, 114), ((.cell 24 0), 3000002, 116), ((.cell 24 1), 3000003, 114)], [0, 2, 3, 4], [4503599627370496, 16, 3000000, 3000001, 24, 3000002, 3000003]⟩ spec_l16Draw_3_sv spec_l16Draw_3_so (Int × List SLot × List STrader × Int × List SLot) (Int × Sl1Cur × List STrader) spec_l16Draw_3_emb spec_l16Draw_3_prj (spec_l16Draw_3_b n)
noncomputable def spec_l16Draw_3_c : Code := ((loopCodes spec_l16Draw_code)[0]?).getD .skip
def spec_l16Draw_7_sv : List Sv := [.one (.ptr 4503599627370496 0 0), .one (.ptr 16 0 0), .one (.ptr 24 0 0), .one (.int .i64)]
def spec_l16Draw_7_so : List So := [.var [.arr 5, .int .i64, .int .i64], .var [.own 3000000 116 false, .own 3000001 114 false, .int .i64], .arr 116 false, .arr 114 false, .var [.arr 116, .arr 114, .int .i64]]
def spec_l16Draw_7_emb (c : Int × List SLot × List STrader) (x : Int × Sl1Cur × SHouse) : EVs T spec_l16Draw_7_sv × EOs T spec_l16Draw_7_so := (((), (), (), x.1, ()), ((x.2.1.b, x.2.1.i, x.2.1.h, ()), ((), (), c.1, ()), c.2.1, c.2.2, (x.2.2.Lots, x.2.2.Traders, x.2.2.Taken, ()), ()))
def spec_l16Draw_7_prj (y : EVs T spec_l16Draw_7_sv × EOs T spec_l16Draw_7_so) : (Int × List SLot × List STrader) × (Int × Sl1Cur × SHouse) := ((y.2.2.1.2.2.1, y.2.2.2.1, y.2.2.2.2.1), (y.1.2.2.2.1, ((⟨y.2.1.1, y.2.1.2.1, y.2.1.2.2.1⟩ : Sl1Cur) : Sl1Cur), ((⟨y.2.2.2.2.2.1.1, y.2.2.2.2.2.1.2.1, y.2.2.2.2.2.1.2.2.1⟩ : SHouse) : SHouse)))
def spec_l16Draw_7_b (n : Nat) {R : Type} (K : Ex → Sm.St T → Option R) (c : Int × List SLot × List STrader) (x : Int × Sl1Cur × SHouse) (J : (Int × Sl1Cur × SHouse) → Option R) : Option R :=
  spec_l16Draw_L7 n (fun (y3 : SHouse) (y4 : Sl1Cur) => K (.exit 2) (stOf (T := T) [2, 3] [16, 3000000, 3000001, 24, 4503599627370496] [.one (.ptr 16 0 0), .one (.ptr 24 0 0)] [.var [.own 3000000 116 false, .own 3000001 114 false, .int .i64], .arr 116 false, .arr 114 false, .var [.arr 116, .arr 114, .int .i64], .var [.arr 5, .int .i64, .int .i64]] ((), (), ()) (((), (), c.1, ()), c.2.1, c.2.2, (y3.Lots, y3.Traders, y3.Taken, ()), (y4.b, y4.i, y4.h, ()), ()))) (fun z0 z1 z2 => J (z0, z1, z2)) x.1 x.2.1 c.1 c.2.1 c.2.2 x.2.2
def spec_l16Draw_7_sp (n : Nat) : LSpec T := mkSpec T ⟨[((.cell 24 0), 116, 999999), ((.cell 24 1), 114, 999999), ((.cell 16 0), 3000000, 116), ((.cell 16 1), 3000001, 114)], [0, 2, 3, 5], [4503599627370496, 16, 3000000, 3000001, 24]⟩ spec_l16Draw_7_sv spec_l16Draw_7_so (Int × List SLot × List STrader) (Int × Sl1Cur × SHouse) spec_l16Draw_7_emb spec_l16Draw_7_prj (spec_l16Draw_7_b n)
noncomputable def spec_l16Draw_7_c : Code := ((loopCodes spec_l16Draw_code)[1]?).getD .skip
def spec_l16Draw_ann : Ann := fun id => bif Nat.beq id 3000003 then some ⟨[((.cell 16 0), 3000000, 116), ((.cell 16 1), 3000001, 114), ((.cell 24 0), 3000002, 116), ((.cell 24 1), 3000003, 114)], [0, 2, 3], [4503599627370496, 16, 3000000, 3000001, 24, 3000002, 3000003]⟩ else bif Nat.beq id 5000007 then some ⟨[((.cell 16 0), 3000000, 116), ((.cell 16 1), 3000001, 114)], [2, 3], [16, 3000000, 3000001, 24, 4503599627370496]⟩ else none
def spec_l16Draw_Ls (n : Nat) : Nat → Option (LSpec T) := fun id => bif Nat.beq id 3 then some (spec_l16Draw_3_sp n) else bif Nat.beq id 7 then some (spec_l16Draw_7_sp n) else none
theorem spec_l16Draw_3_le (n : Nat) : LoopEq (T := T) (Phi n 15) (spec_l16Draw_Ls n) spec_l16Draw_ann n spec_l16Draw_3_c (spec_l16Draw_3_sp n) := ⟨mkSpec_dec (fun y => rfl), fun c x => by kernel_rfl, fun K J c x => by kernel_rfl⟩
theorem spec_l16Draw_7_le (n : Nat) : LoopEq (T := T) (Phi n 15) (spec_l16Draw_Ls n) spec_l16Draw_ann n spec_l16Draw_7_c (spec_l16Draw_7_sp n) := ⟨mkSpec_dec (fun y => rfl), fun c x => by kernel_rfl, fun K J c x => by kernel_rfl⟩
theorem spec_l16Draw_tie (n : Nat) (c0 : Sl1Cur) : evF (T := T) (Phi n 15) (spec_l16Draw_Ls n) spec_l16Draw_ann n Try.f154 (sg 154) [.ptr 232 c0] spec_l16Draw_dec = spec_l16Draw n c0 := by kernel_rfl
theorem spec_l16Draw_lo (n : Nat) : LoopsOk (T := T) (Phi n 15) (spec_l16Draw_Ls n) spec_l16Draw_ann n spec_l16Draw_code := loopsOk_all (cs := [spec_l16Draw_3_c, spec_l16Draw_7_c]) (by kernel_rfl) ⟨⟨_, by kernel_rfl, spec_l16Draw_3_le n⟩, ⟨_, by kernel_rfl, spec_l16Draw_7_le n⟩, trivial⟩
theorem spec_l16Draw_ok (n : Nat) : EntOk Try.prog (ents n) (spec_l16Draw_ent n) := by
  intro hs ar y hg h
  replace h : spec_l16Draw_D n ar = some y := h
  unfold spec_l16Draw_D at h
  replace h := ocons_some h
  obtain ⟨a0, r0, rfl, h⟩ := h
  replace h := onil_some h
  obtain ⟨rfl, h⟩ := h
  obtain ⟨c0, qh0, h⟩ := obind_some h
  rw [argP_eq qh0]
  exact call_of (phiE_nat _ _) hs ok mixed Try.func154 (c := spec_l16Draw_code) (by kernel_rfl) (spec_l16Draw_lo n) (by kernel_rfl) (by kernel_rfl) (by kernel_rfl) spec_l16Draw_de ((spec_l16Draw_tie n c0).trans h)
noncomputable def spec_DrawHouse_code : Code := match Try.f62.body with | some c => c | none => .skip
def spec_DrawHouse_5_sv : List Sv := [.one (.ptr 16 0 0), .one (.ptr 72 0 0), .one (.ptr 40 0 0), .one (.own 3000000 96 false), .one (.int .i64)]
def spec_DrawHouse_5_so : List So := [.var [.own 3000001 116 false, .own 3000002 114 false, .int .i64], .arr 116 false, .arr 114 false, .var [.arr 5, .int .i64, .int .i64], .var [.arr 116, .arr 114, .int .i64], .arr 96 false]
def spec_DrawHouse_5_emb (c : Int × List SLot × List STrader × SHouse) (x : Int × Sl1Cur × List SDeed) : EVs T spec_DrawHouse_5_sv × EOs T spec_DrawHouse_5_so := (((), (), (), (), x.1, ()), (((), (), c.1, ()), c.2.1, c.2.2.1, (x.2.1.b, x.2.1.i, x.2.1.h, ()), (c.2.2.2.Lots, c.2.2.2.Traders, c.2.2.2.Taken, ()), x.2.2, ()))
def spec_DrawHouse_5_prj (y : EVs T spec_DrawHouse_5_sv × EOs T spec_DrawHouse_5_so) : (Int × List SLot × List STrader × SHouse) × (Int × Sl1Cur × List SDeed) := ((y.2.1.2.2.1, y.2.2.1, y.2.2.2.1, ((⟨y.2.2.2.2.2.1.1, y.2.2.2.2.2.1.2.1, y.2.2.2.2.2.1.2.2.1⟩ : SHouse) : SHouse)), (y.1.2.2.2.2.1, ((⟨y.2.2.2.2.1.1, y.2.2.2.2.1.2.1, y.2.2.2.2.1.2.2.1⟩ : Sl1Cur) : Sl1Cur), y.2.2.2.2.2.2.1))
def spec_DrawHouse_5_b (n : Nat) {R : Type} (K : Ex → Sm.St T → Option R) (c : Int × List SLot × List STrader × SHouse) (x : Int × Sl1Cur × List SDeed) (J : (Int × Sl1Cur × List SDeed) → Option R) : Option R :=
  spec_DrawHouse_L5 n (fun (y4 : List SDeed) => K (.exit 0) (stOf (T := T) [2, 5, 6] [16, 3000001, 3000002, 40, 3000000] [.one (.ptr 16 0 0), .one (.ptr 40 0 0), .one (.own 3000000 96 false)] [.var [.own 3000001 116 false, .own 3000002 114 false, .int .i64], .arr 116 false, .arr 114 false, .var [.arr 116, .arr 114, .int .i64], .arr 96 false] ((), (), (), ()) (((), (), c.1, ()), c.2.1, c.2.2.1, (c.2.2.2.Lots, c.2.2.2.Traders, c.2.2.2.Taken, ()), y4, ()))) (fun z0 z1 z2 => J (z0, z1, z2)) x.1 c.1 c.2.1 c.2.2.1 x.2.1 c.2.2.2 x.2.2
def spec_DrawHouse_5_sp (n : Nat) : LSpec T := mkSpec T ⟨[((.reg 6), 3000000, 96), ((.cell 16 0), 3000001, 116), ((.cell 16 1), 3000002, 114)], [2, 4, 5, 6, 7], [16, 3000001, 3000002, 72, 40, 3000000]⟩ spec_DrawHouse_5_sv spec_DrawHouse_5_so (Int × List SLot × List STrader × SHouse) (Int × Sl1Cur × List SDeed) spec_DrawHouse_5_emb spec_DrawHouse_5_prj (spec_DrawHouse_5_b n)
noncomputable def spec_DrawHouse_5_c : Code := ((loopCodes spec_DrawHouse_code)[0]?).getD .skip
def spec_DrawHouse_ann : Ann := fun id => bif Nat.beq id 3000005 then some ⟨[((.reg 6), 3000000, 96), ((.cell 16 0), 3000001, 116), ((.cell 16 1), 3000002, 114)], [2, 5, 6], [16, 3000001, 3000002, 40, 3000000]⟩ else none
def spec_DrawHouse_Ls (n : Nat) : Nat → Option (LSpec T) := fun id => bif Nat.beq id 5 then some (spec_DrawHouse_5_sp n) else none
theorem spec_DrawHouse_5_le (n : Nat) : LoopEq (T := T) (Phi n 16) (spec_DrawHouse_Ls n) spec_DrawHouse_ann n spec_DrawHouse_5_c (spec_DrawHouse_5_sp n) := ⟨mkSpec_dec (fun y => rfl), fun c x => by kernel_rfl, fun K J c x => by kernel_rfl⟩
theorem spec_DrawHouse_tie (n : Nat) (code0 : List Int) : evF (T := T) (Phi n 16) (spec_DrawHouse_Ls n) spec_DrawHouse_ann n Try.f62 (sg 62) [vA T 70 code0] spec_DrawHouse_dec = spec_DrawHouse n code0 := by kernel_rfl
theorem spec_DrawHouse_lo (n : Nat) : LoopsOk (T := T) (Phi n 16) (spec_DrawHouse_Ls n) spec_DrawHouse_ann n spec_DrawHouse_code := loopsOk_all (cs := [spec_DrawHouse_5_c]) (by kernel_rfl) ⟨⟨_, by kernel_rfl, spec_DrawHouse_5_le n⟩, trivial⟩
theorem spec_DrawHouse_ok (n : Nat) : EntOk Try.prog (ents n) (spec_DrawHouse_ent n) := by
  intro hs ar y hg h
  replace h : spec_DrawHouse_D n ar = some y := h
  unfold spec_DrawHouse_D at h
  replace h := ocons_some h
  obtain ⟨a0, r0, rfl, h⟩ := h
  replace h := onil_some h
  obtain ⟨rfl, h⟩ := h
  obtain ⟨code0, qh0, h⟩ := obind_some h
  rw [argV_eq ok qh0]
  exact call_of (phiE_nat _ _) hs ok mixed Try.func62 (c := spec_DrawHouse_code) (by kernel_rfl) (spec_DrawHouse_lo n) (by kernel_rfl) (by kernel_rfl) (by kernel_rfl) spec_DrawHouse_de ((spec_DrawHouse_tie n code0).trans h)
noncomputable def impl_own_impl_Lot_code : Code := match Try.f201.body with | some c => c | none => .skip
def impl_own_impl_Lot_ann : Ann := fun id => none
def impl_own_impl_Lot_Ls (n : Nat) : Nat → Option (LSpec T) := fun id => none
theorem impl_own_impl_Lot_tie (n : Nat) (l0 : List SLot) : evF (T := T) (Phi n 17) (impl_own_impl_Lot_Ls n) impl_own_impl_Lot_ann n Try.f201 (sg 201) [vA T 89 l0] impl_own_impl_Lot_dec = impl_own_impl_Lot n l0 := by kernel_rfl
theorem impl_own_impl_Lot_lo (n : Nat) : LoopsOk (T := T) (Phi n 17) (impl_own_impl_Lot_Ls n) impl_own_impl_Lot_ann n impl_own_impl_Lot_code := loopsOk_all (cs := []) (by kernel_rfl) trivial
theorem impl_own_impl_Lot_ok (n : Nat) : EntOk Try.prog (ents n) (impl_own_impl_Lot_ent n) := by
  intro hs ar y hg h
  replace h : impl_own_impl_Lot_D n ar = some y := h
  unfold impl_own_impl_Lot_D at h
  replace h := ocons_some h
  obtain ⟨a0, r0, rfl, h⟩ := h
  replace h := onil_some h
  obtain ⟨rfl, h⟩ := h
  obtain ⟨l0, qh0, h⟩ := obind_some h
  rw [argV_eq ok qh0]
  exact call_of (phiE_nat _ _) hs ok mixed Try.func201 (c := impl_own_impl_Lot_code) (by kernel_rfl) (impl_own_impl_Lot_lo n) (by kernel_rfl) (by kernel_rfl) (by kernel_rfl) impl_own_impl_Lot_de ((impl_own_impl_Lot_tie n l0).trans h)
noncomputable def impl_own_impl_Trader_code : Code := match Try.f202.body with | some c => c | none => .skip
def impl_own_impl_Trader_ann : Ann := fun id => none
def impl_own_impl_Trader_Ls (n : Nat) : Nat → Option (LSpec T) := fun id => none
theorem impl_own_impl_Trader_tie (n : Nat) (l0 : List STrader) : evF (T := T) (Phi n 18) (impl_own_impl_Trader_Ls n) impl_own_impl_Trader_ann n Try.f202 (sg 202) [vA T 90 l0] impl_own_impl_Trader_dec = impl_own_impl_Trader n l0 := by kernel_rfl
theorem impl_own_impl_Trader_lo (n : Nat) : LoopsOk (T := T) (Phi n 18) (impl_own_impl_Trader_Ls n) impl_own_impl_Trader_ann n impl_own_impl_Trader_code := loopsOk_all (cs := []) (by kernel_rfl) trivial
theorem impl_own_impl_Trader_ok (n : Nat) : EntOk Try.prog (ents n) (impl_own_impl_Trader_ent n) := by
  intro hs ar y hg h
  replace h : impl_own_impl_Trader_D n ar = some y := h
  unfold impl_own_impl_Trader_D at h
  replace h := ocons_some h
  obtain ⟨a0, r0, rfl, h⟩ := h
  replace h := onil_some h
  obtain ⟨rfl, h⟩ := h
  obtain ⟨l0, qh0, h⟩ := obind_some h
  rw [argV_eq ok qh0]
  exact call_of (phiE_nat _ _) hs ok mixed Try.func202 (c := impl_own_impl_Trader_code) (by kernel_rfl) (impl_own_impl_Trader_lo n) (by kernel_rfl) (by kernel_rfl) (by kernel_rfl) impl_own_impl_Trader_de ((impl_own_impl_Trader_tie n l0).trans h)
noncomputable def impl_House_own_code : Code := match Try.f141.body with | some c => c | none => .skip
def impl_House_own_ann : Ann := fun id => none
def impl_House_own_Ls (n : Nat) : Nat → Option (LSpec T) := fun id => none
theorem impl_House_own_tie (n : Nat) (h0 : SHouse) : evF (T := T) (Phi n 19) (impl_House_own_Ls n) impl_House_own_ann n Try.f141 (sg 141) [vA T 92 h0] impl_House_own_dec = impl_House_own n h0 := by kernel_rfl
theorem impl_House_own_lo (n : Nat) : LoopsOk (T := T) (Phi n 19) (impl_House_own_Ls n) impl_House_own_ann n impl_House_own_code := loopsOk_all (cs := []) (by kernel_rfl) trivial
theorem impl_House_own_ok (n : Nat) : EntOk Try.prog (ents n) (impl_House_own_ent n) := by
  intro hs ar y hg h
  replace h : impl_House_own_D n ar = some y := h
  unfold impl_House_own_D at h
  replace h := ocons_some h
  obtain ⟨a0, r0, rfl, h⟩ := h
  replace h := onil_some h
  obtain ⟨rfl, h⟩ := h
  obtain ⟨h0, qh0, h⟩ := obind_some h
  rw [argV_eq ok qh0]
  exact call_of (phiE_nat _ _) hs ok mixed Try.func141 (c := impl_House_own_code) (by kernel_rfl) (impl_House_own_lo n) (by kernel_rfl) (by kernel_rfl) (by kernel_rfl) impl_House_own_de ((impl_House_own_tie n h0).trans h)
noncomputable def impl_in_code : Code := match Try.f101.body with | some c => c | none => .skip
def impl_in_ann : Ann := fun id => none
def impl_in_Ls (n : Nat) : Nat → Option (LSpec T) := fun id => none
theorem impl_in_tie (n : Nat) (n0 : Int) (least1 : Int) (most2 : Int) : evF (T := T) (Phi n 20) (impl_in_Ls n) impl_in_ann n Try.f101 (sg 101) [vA T 3 n0, vA T 3 least1, vA T 3 most2] impl_in_dec = impl_in n n0 least1 most2 := by kernel_rfl
theorem impl_in_lo (n : Nat) : LoopsOk (T := T) (Phi n 20) (impl_in_Ls n) impl_in_ann n impl_in_code := loopsOk_all (cs := []) (by kernel_rfl) trivial
theorem impl_in_ok (n : Nat) : EntOk Try.prog (ents n) (impl_in_ent n) := by
  intro hs ar y hg h
  replace h : impl_in_D n ar = some y := h
  unfold impl_in_D at h
  replace h := ocons_some h
  obtain ⟨a0, r0, rfl, h⟩ := h
  replace h := ocons_some h
  obtain ⟨a1, r1, rfl, h⟩ := h
  replace h := ocons_some h
  obtain ⟨a2, r2, rfl, h⟩ := h
  replace h := onil_some h
  obtain ⟨rfl, h⟩ := h
  obtain ⟨n0, qh0, h⟩ := obind_some h
  obtain ⟨least1, qh1, h⟩ := obind_some h
  obtain ⟨most2, qh2, h⟩ := obind_some h
  rw [argV_eq ok qh0, argV_eq ok qh1, argV_eq ok qh2]
  exact call_of (phiE_nat _ _) hs ok mixed Try.func101 (c := impl_in_code) (by kernel_rfl) (impl_in_lo n) (by kernel_rfl) (by kernel_rfl) (by kernel_rfl) impl_in_de ((impl_in_tie n n0 least1 most2).trans h)
noncomputable def impl_idRight_code : Code := match Try.f102.body with | some c => c | none => .skip
def impl_idRight_ann : Ann := fun id => none
def impl_idRight_Ls (n : Nat) : Nat → Option (LSpec T) := fun id => none
theorem impl_idRight_tie (n : Nat) (n0 : Int) : evF (T := T) (Phi n 21) (impl_idRight_Ls n) impl_idRight_ann n Try.f102 (sg 102) [vA T 3 n0] impl_idRight_dec = impl_idRight n n0 := by kernel_rfl
theorem impl_idRight_lo (n : Nat) : LoopsOk (T := T) (Phi n 21) (impl_idRight_Ls n) impl_idRight_ann n impl_idRight_code := loopsOk_all (cs := []) (by kernel_rfl) trivial
theorem impl_idRight_ok (n : Nat) : EntOk Try.prog (ents n) (impl_idRight_ent n) := by
  intro hs ar y hg h
  replace h : impl_idRight_D n ar = some y := h
  unfold impl_idRight_D at h
  replace h := ocons_some h
  obtain ⟨a0, r0, rfl, h⟩ := h
  replace h := onil_some h
  obtain ⟨rfl, h⟩ := h
  obtain ⟨n0, qh0, h⟩ := obind_some h
  rw [argV_eq ok qh0]
  exact call_of (phiE_nat _ _) hs ok mixed Try.func102 (c := impl_idRight_code) (by kernel_rfl) (impl_idRight_lo n) (by kernel_rfl) (by kernel_rfl) (by kernel_rfl) impl_idRight_de ((impl_idRight_tie n n0).trans h)
noncomputable def impl_lotRight_code : Code := match Try.f142.body with | some c => c | none => .skip
def impl_lotRight_ann : Ann := fun id => none
def impl_lotRight_Ls (n : Nat) : Nat → Option (LSpec T) := fun id => none
theorem impl_lotRight_tie (n : Nat) (many0 : Int) (value1 : Int) (rate2 : Int) : evF (T := T) (Phi n 22) (impl_lotRight_Ls n) impl_lotRight_ann n Try.f142 (sg 142) [vA T 3 many0, vA T 3 value1, vA T 3 rate2] impl_lotRight_dec = impl_lotRight n many0 value1 rate2 := by kernel_rfl
theorem impl_lotRight_lo (n : Nat) : LoopsOk (T := T) (Phi n 22) (impl_lotRight_Ls n) impl_lotRight_ann n impl_lotRight_code := loopsOk_all (cs := []) (by kernel_rfl) trivial
theorem impl_lotRight_ok (n : Nat) : EntOk Try.prog (ents n) (impl_lotRight_ent n) := by
  intro hs ar y hg h
  replace h : impl_lotRight_D n ar = some y := h
  unfold impl_lotRight_D at h
  replace h := ocons_some h
  obtain ⟨a0, r0, rfl, h⟩ := h
  replace h := ocons_some h
  obtain ⟨a1, r1, rfl, h⟩ := h
  replace h := ocons_some h
  obtain ⟨a2, r2, rfl, h⟩ := h
  replace h := onil_some h
  obtain ⟨rfl, h⟩ := h
  obtain ⟨many0, qh0, h⟩ := obind_some h
  obtain ⟨value1, qh1, h⟩ := obind_some h
  obtain ⟨rate2, qh2, h⟩ := obind_some h
  rw [argV_eq ok qh0, argV_eq ok qh1, argV_eq ok qh2]
  exact call_of (phiE_nat _ _) hs ok mixed Try.func142 (c := impl_lotRight_code) (by kernel_rfl) (impl_lotRight_lo n) (by kernel_rfl) (by kernel_rfl) (by kernel_rfl) impl_lotRight_de ((impl_lotRight_tie n many0 value1 rate2).trans h)
noncomputable def impl_Duty6_code : Code := match Try.f64.body with | some c => c | none => .skip
def impl_Duty6_ann : Ann := fun id => none
def impl_Duty6_Ls (n : Nat) : Nat → Option (LSpec T) := fun id => none
theorem impl_Duty6_tie (n : Nat) (many0 : Int) (value1 : Int) (rate2 : Int) : evF (T := T) (Phi n 23) (impl_Duty6_Ls n) impl_Duty6_ann n Try.f64 (sg 64) [vA T 3 many0, vA T 3 value1, vA T 3 rate2] impl_Duty6_dec = impl_Duty6 n many0 value1 rate2 := by kernel_rfl
theorem impl_Duty6_lo (n : Nat) : LoopsOk (T := T) (Phi n 23) (impl_Duty6_Ls n) impl_Duty6_ann n impl_Duty6_code := loopsOk_all (cs := []) (by kernel_rfl) trivial
theorem impl_Duty6_ok (n : Nat) : EntOk Try.prog (ents n) (impl_Duty6_ent n) := by
  intro hs ar y hg h
  replace h : impl_Duty6_D n ar = some y := h
  unfold impl_Duty6_D at h
  replace h := ocons_some h
  obtain ⟨a0, r0, rfl, h⟩ := h
  replace h := ocons_some h
  obtain ⟨a1, r1, rfl, h⟩ := h
  replace h := ocons_some h
  obtain ⟨a2, r2, rfl, h⟩ := h
  replace h := onil_some h
  obtain ⟨rfl, h⟩ := h
  obtain ⟨many0, qh0, h⟩ := obind_some h
  obtain ⟨value1, qh1, h⟩ := obind_some h
  obtain ⟨rate2, qh2, h⟩ := obind_some h
  rw [argV_eq ok qh0, argV_eq ok qh1, argV_eq ok qh2]
  exact call_of (phiE_nat _ _) hs ok mixed Try.func64 (c := impl_Duty6_code) (by kernel_rfl) (impl_Duty6_lo n) (by kernel_rfl) (by kernel_rfl) (by kernel_rfl) impl_Duty6_de ((impl_Duty6_tie n many0 value1 rate2).trans h)
noncomputable def impl_Lot_duty_code : Code := match Try.f146.body with | some c => c | none => .skip
def impl_Lot_duty_ann : Ann := fun id => none
def impl_Lot_duty_Ls (n : Nat) : Nat → Option (LSpec T) := fun id => none
theorem impl_Lot_duty_tie (n : Nat) (l0 : SLot) : evF (T := T) (Phi n 24) (impl_Lot_duty_Ls n) impl_Lot_duty_ann n Try.f146 (sg 146) [vA T 116 l0] impl_Lot_duty_dec = impl_Lot_duty n l0 := by kernel_rfl
theorem impl_Lot_duty_lo (n : Nat) : LoopsOk (T := T) (Phi n 24) (impl_Lot_duty_Ls n) impl_Lot_duty_ann n impl_Lot_duty_code := loopsOk_all (cs := []) (by kernel_rfl) trivial
theorem impl_Lot_duty_ok (n : Nat) : EntOk Try.prog (ents n) (impl_Lot_duty_ent n) := by
  intro hs ar y hg h
  replace h : impl_Lot_duty_D n ar = some y := h
  unfold impl_Lot_duty_D at h
  replace h := ocons_some h
  obtain ⟨a0, r0, rfl, h⟩ := h
  replace h := onil_some h
  obtain ⟨rfl, h⟩ := h
  obtain ⟨l0, qh0, h⟩ := obind_some h
  rw [argV_eq ok qh0]
  exact call_of (phiE_nat _ _) hs ok mixed Try.func146 (c := impl_Lot_duty_code) (by kernel_rfl) (impl_Lot_duty_lo n) (by kernel_rfl) (by kernel_rfl) (by kernel_rfl) impl_Lot_duty_de ((impl_Lot_duty_tie n l0).trans h)
noncomputable def impl_HouseOk_code : Code := match Try.f63.body with | some c => c | none => .skip
def impl_HouseOk_5_sv : List Sv := [.one (.ptr 8 0 0), .one (.own 3000000 3 false), .one (.arr 116), .one (.int .i64), .one (.int .i64)]
def impl_HouseOk_5_so : List So := [.var [.arr 116, .arr 114, .int .i64], .arr 3 false]
def impl_HouseOk_5_emb (c : List SLot × Int × SHouse) (x : Int × List Int) : EVs T impl_HouseOk_5_sv × EOs T impl_HouseOk_5_so := (((), (), c.1, c.2.1, x.1, ()), ((c.2.2.Lots, c.2.2.Traders, c.2.2.Taken, ()), x.2, ()))
def impl_HouseOk_5_prj (y : EVs T impl_HouseOk_5_sv × EOs T impl_HouseOk_5_so) : (List SLot × Int × SHouse) × (Int × List Int) := ((y.1.2.2.1, y.1.2.2.2.1, ((⟨y.2.1.1, y.2.1.2.1, y.2.1.2.2.1⟩ : SHouse) : SHouse)), (y.1.2.2.2.2.1, y.2.2.1))
def impl_HouseOk_5_b (n : Nat) {R : Type} (K : Ex → Sm.St T → Option R) (c : List SLot × Int × SHouse) (x : Int × List Int) (J : (Int × List Int) → Option R) : Option R :=
  impl_HouseOk_L5 n (fun (y1 : List Int) => K (.exit 0) (stOf (T := T) [1, 3] [8, 3000000] [.one (.ptr 8 0 0), .one (.own 3000000 3 false)] [.var [.arr 116, .arr 114, .int .i64], .arr 3 false] ((), (), ()) ((c.2.2.Lots, c.2.2.Traders, c.2.2.Taken, ()), y1, ()))) (fun (y0 : Bool) => K .ret (stOf (T := T) [2] [] [.one (.bool)] [] (y0, ()) ())) (fun z0 z1 => J (z0, z1)) c.1 c.2.1 x.1 c.2.2 x.2
def impl_HouseOk_5_sp (n : Nat) : LSpec T := mkSpec T ⟨[((.reg 3), 3000000, 3)], [1, 3, 30, 31, 32], [8, 3000000]⟩ impl_HouseOk_5_sv impl_HouseOk_5_so (List SLot × Int × SHouse) (Int × List Int) impl_HouseOk_5_emb impl_HouseOk_5_prj (impl_HouseOk_5_b n)
noncomputable def impl_HouseOk_5_c : Code := ((loopCodes impl_HouseOk_code)[0]?).getD .skip
def impl_HouseOk_17_sv : List Sv := [.one (.own 3000000 3 false), .one (.arr 114), .one (.int .i64), .one (.int .i64)]
def impl_HouseOk_17_so : List So := [.arr 3 false]
def impl_HouseOk_17_emb (c : List STrader × Int × List Int) (x : Int) : EVs T impl_HouseOk_17_sv × EOs T impl_HouseOk_17_so := (((), c.1, c.2.1, x, ()), (c.2.2, ()))
def impl_HouseOk_17_prj (y : EVs T impl_HouseOk_17_sv × EOs T impl_HouseOk_17_so) : (List STrader × Int × List Int) × Int := ((y.1.2.1, y.1.2.2.1, y.2.1), (y.1.2.2.2.1))
def impl_HouseOk_17_b (n : Nat) {R : Type} (K : Ex → Sm.St T → Option R) (c : List STrader × Int × List Int) (x : Int) (J : Int → Option R) : Option R :=
  impl_HouseOk_L17 n (K (.exit 2) (stOf (T := T) [] [] [] [] () ())) (fun (y0 : Bool) => K .ret (stOf (T := T) [2] [] [.one (.bool)] [] (y0, ()) ())) J c.1 c.2.1 x c.2.2
def impl_HouseOk_17_sp (n : Nat) : LSpec T := mkSpec T ⟨[((.reg 3), 3000000, 3)], [3, 103, 104, 105], [3000000]⟩ impl_HouseOk_17_sv impl_HouseOk_17_so (List STrader × Int × List Int) (Int) impl_HouseOk_17_emb impl_HouseOk_17_prj (impl_HouseOk_17_b n)
noncomputable def impl_HouseOk_17_c : Code := ((loopCodes impl_HouseOk_code)[1]?).getD .skip
def impl_HouseOk_ann : Ann := fun id => bif Nat.beq id 3000005 then some ⟨[((.reg 3), 3000000, 3)], [1, 3], [8, 3000000]⟩ else bif Nat.beq id 2000005 then some ⟨[], [2], []⟩ else bif Nat.beq id 5000017 then some ⟨[], [], []⟩ else bif Nat.beq id 2000017 then some ⟨[], [2], []⟩ else none
def impl_HouseOk_Ls (n : Nat) : Nat → Option (LSpec T) := fun id => bif Nat.beq id 5 then some (impl_HouseOk_5_sp n) else bif Nat.beq id 17 then some (impl_HouseOk_17_sp n) else none
theorem impl_HouseOk_5_le (n : Nat) : LoopEq (T := T) (Phi n 25) (impl_HouseOk_Ls n) impl_HouseOk_ann n impl_HouseOk_5_c (impl_HouseOk_5_sp n) := ⟨mkSpec_dec (fun y => rfl), fun c x => by kernel_rfl, fun K J c x => by kernel_rfl⟩
theorem impl_HouseOk_17_le (n : Nat) : LoopEq (T := T) (Phi n 25) (impl_HouseOk_Ls n) impl_HouseOk_ann n impl_HouseOk_17_c (impl_HouseOk_17_sp n) := ⟨mkSpec_dec (fun y => rfl), fun c x => by kernel_rfl, fun K J c x => by kernel_rfl⟩
theorem impl_HouseOk_tie (n : Nat) (h0 : SHouse) : evF (T := T) (Phi n 25) (impl_HouseOk_Ls n) impl_HouseOk_ann n Try.f63 (sg 63) [vA T 92 h0] impl_HouseOk_dec = impl_HouseOk n h0 := by kernel_rfl
theorem impl_HouseOk_lo (n : Nat) : LoopsOk (T := T) (Phi n 25) (impl_HouseOk_Ls n) impl_HouseOk_ann n impl_HouseOk_code := loopsOk_all (cs := [impl_HouseOk_5_c, impl_HouseOk_17_c]) (by kernel_rfl) ⟨⟨_, by kernel_rfl, impl_HouseOk_5_le n⟩, ⟨_, by kernel_rfl, impl_HouseOk_17_le n⟩, trivial⟩
theorem impl_HouseOk_ok (n : Nat) : EntOk Try.prog (ents n) (impl_HouseOk_ent n) := by
  intro hs ar y hg h
  replace h : impl_HouseOk_D n ar = some y := h
  unfold impl_HouseOk_D at h
  replace h := ocons_some h
  obtain ⟨a0, r0, rfl, h⟩ := h
  replace h := onil_some h
  obtain ⟨rfl, h⟩ := h
  obtain ⟨h0, qh0, h⟩ := obind_some h
  rw [argV_eq ok qh0]
  exact call_of (phiE_nat _ _) hs ok mixed Try.func63 (c := impl_HouseOk_code) (by kernel_rfl) (impl_HouseOk_lo n) (by kernel_rfl) (by kernel_rfl) (by kernel_rfl) impl_HouseOk_de ((impl_HouseOk_tie n h0).trans h)
noncomputable def impl_House_lot_1_code : Code := match Try.f204.body with | some c => c | none => .skip
def impl_House_lot_1_ann : Ann := fun id => none
def impl_House_lot_1_Ls (n : Nat) : Nat → Option (LSpec T) := fun id => none
theorem impl_House_lot_1_tie (n : Nat) (l0 : SLot) (a1 : Int) : evF (T := T) (Phi n 26) (impl_House_lot_1_Ls n) impl_House_lot_1_ann n Try.f204 (sg 204) [vA T 116 l0, .ptr 3 a1] impl_House_lot_1_dec = impl_House_lot_1 n l0 a1 := by kernel_rfl
theorem impl_House_lot_1_lo (n : Nat) : LoopsOk (T := T) (Phi n 26) (impl_House_lot_1_Ls n) impl_House_lot_1_ann n impl_House_lot_1_code := loopsOk_all (cs := []) (by kernel_rfl) trivial
theorem impl_House_lot_1_ok (n : Nat) : EntOk Try.prog (ents n) (impl_House_lot_1_ent n) := by
  intro hs ar y hg h
  replace h : impl_House_lot_1_D n ar = some y := h
  unfold impl_House_lot_1_D at h
  replace h := ocons_some h
  obtain ⟨a0, r0, rfl, h⟩ := h
  replace h := ocons_some h
  obtain ⟨a1, r1, rfl, h⟩ := h
  replace h := onil_some h
  obtain ⟨rfl, h⟩ := h
  obtain ⟨l0, qh0, h⟩ := obind_some h
  obtain ⟨a1, qh1, h⟩ := obind_some h
  rw [argV_eq ok qh0, argP_eq qh1]
  exact call_of (phiE_nat _ _) hs ok mixed Try.func204 (c := impl_House_lot_1_code) (by kernel_rfl) (impl_House_lot_1_lo n) (by kernel_rfl) (by kernel_rfl) (by kernel_rfl) impl_House_lot_1_de ((impl_House_lot_1_tie n l0 a1).trans h)
noncomputable def slices_IndexFunc_impl_Lot_impl_Lot__impl_House_lot_1_code : Code := match Try.f203.body with | some c => c | none => .skip
def slices_IndexFunc_impl_Lot_impl_Lot__impl_House_lot_1_2_sv : List Sv := [.one (.arr 116), .one (.fnr 204 [3]), .one (.int .i64), .one (.int .i64)]
def slices_IndexFunc_impl_Lot_impl_Lot__impl_House_lot_1_2_so : List So := []
def slices_IndexFunc_impl_Lot_impl_Lot__impl_House_lot_1_2_emb (c : List SLot × Int × Int) (x : Int) : EVs T slices_IndexFunc_impl_Lot_impl_Lot__impl_House_lot_1_2_sv × EOs T slices_IndexFunc_impl_Lot_impl_Lot__impl_House_lot_1_2_so := ((c.1, (c.2.1, ()), c.2.2, x, ()), ())
def slices_IndexFunc_impl_Lot_impl_Lot__impl_House_lot_1_2_prj (y : EVs T slices_IndexFunc_impl_Lot_impl_Lot__impl_House_lot_1_2_sv × EOs T slices_IndexFunc_impl_Lot_impl_Lot__impl_House_lot_1_2_so) : (List SLot × Int × Int) × Int := ((y.1.1, y.1.2.1.1, y.1.2.2.1), (y.1.2.2.2.1))
def slices_IndexFunc_impl_Lot_impl_Lot__impl_House_lot_1_2_b (n : Nat) {R : Type} (K : Ex → Sm.St T → Option R) (c : List SLot × Int × Int) (x : Int) (J : Int → Option R) : Option R :=
  slices_IndexFunc_impl_Lot_impl_Lot__impl_House_lot_1_L2 n (K (.exit 0) (stOf (T := T) [] [] [] [] () ())) (fun (y0 : Int) => K .ret (stOf (T := T) [4] [] [.one (.int .i64)] [] (y0, ()) ())) J c.1 c.2.1 c.2.2 x
def slices_IndexFunc_impl_Lot_impl_Lot__impl_House_lot_1_2_sp (n : Nat) : LSpec T := mkSpec T ⟨[], [0, 1, 7, 8], []⟩ slices_IndexFunc_impl_Lot_impl_Lot__impl_House_lot_1_2_sv slices_IndexFunc_impl_Lot_impl_Lot__impl_House_lot_1_2_so (List SLot × Int × Int) (Int) slices_IndexFunc_impl_Lot_impl_Lot__impl_House_lot_1_2_emb slices_IndexFunc_impl_Lot_impl_Lot__impl_House_lot_1_2_prj (slices_IndexFunc_impl_Lot_impl_Lot__impl_House_lot_1_2_b n)
noncomputable def slices_IndexFunc_impl_Lot_impl_Lot__impl_House_lot_1_2_c : Code := ((loopCodes slices_IndexFunc_impl_Lot_impl_Lot__impl_House_lot_1_code)[0]?).getD .skip
def slices_IndexFunc_impl_Lot_impl_Lot__impl_House_lot_1_ann : Ann := fun id => bif Nat.beq id 3000002 then some ⟨[], [], []⟩ else bif Nat.beq id 2000002 then some ⟨[], [4], []⟩ else none
def slices_IndexFunc_impl_Lot_impl_Lot__impl_House_lot_1_Ls (n : Nat) : Nat → Option (LSpec T) := fun id => bif Nat.beq id 2 then some (slices_IndexFunc_impl_Lot_impl_Lot__impl_House_lot_1_2_sp n) else none
theorem slices_IndexFunc_impl_Lot_impl_Lot__impl_House_lot_1_2_le (n : Nat) : LoopEq (T := T) (Phi n 27) (slices_IndexFunc_impl_Lot_impl_Lot__impl_House_lot_1_Ls n) slices_IndexFunc_impl_Lot_impl_Lot__impl_House_lot_1_ann n slices_IndexFunc_impl_Lot_impl_Lot__impl_House_lot_1_2_c (slices_IndexFunc_impl_Lot_impl_Lot__impl_House_lot_1_2_sp n) := ⟨mkSpec_dec (fun y => rfl), fun c x => by kernel_rfl, fun K J c x => by kernel_rfl⟩
theorem slices_IndexFunc_impl_Lot_impl_Lot__impl_House_lot_1_tie (n : Nat) (s0 : List SLot) (f1c0 : Int) : evF (T := T) (Phi n 27) (slices_IndexFunc_impl_Lot_impl_Lot__impl_House_lot_1_Ls n) slices_IndexFunc_impl_Lot_impl_Lot__impl_House_lot_1_ann n Try.f203 (sg 203) [vA T 89 s0, .fn 204 [.ptr 3 f1c0]] slices_IndexFunc_impl_Lot_impl_Lot__impl_House_lot_1_dec = slices_IndexFunc_impl_Lot_impl_Lot__impl_House_lot_1 n s0 f1c0 := by kernel_rfl
theorem slices_IndexFunc_impl_Lot_impl_Lot__impl_House_lot_1_lo (n : Nat) : LoopsOk (T := T) (Phi n 27) (slices_IndexFunc_impl_Lot_impl_Lot__impl_House_lot_1_Ls n) slices_IndexFunc_impl_Lot_impl_Lot__impl_House_lot_1_ann n slices_IndexFunc_impl_Lot_impl_Lot__impl_House_lot_1_code := loopsOk_all (cs := [slices_IndexFunc_impl_Lot_impl_Lot__impl_House_lot_1_2_c]) (by kernel_rfl) ⟨⟨_, by kernel_rfl, slices_IndexFunc_impl_Lot_impl_Lot__impl_House_lot_1_2_le n⟩, trivial⟩
theorem slices_IndexFunc_impl_Lot_impl_Lot__impl_House_lot_1_ok (n : Nat) : EntOk Try.prog (ents n) (slices_IndexFunc_impl_Lot_impl_Lot__impl_House_lot_1_ent n) := by
  intro hs ar y hg h
  replace h : slices_IndexFunc_impl_Lot_impl_Lot__impl_House_lot_1_D n ar = some y := h
  unfold slices_IndexFunc_impl_Lot_impl_Lot__impl_House_lot_1_D at h
  split at h
  · obtain ⟨s0, qh0, h⟩ := obind_some h
    obtain ⟨f1c0, qh1, h⟩ := obind_some h
    rw [argV_eq ok qh0, argP_eq qh1] at hg ⊢
    cases (show [_] = [204] from natsEq_eq hg)
    exact call_of (phiE_nat _ _) hs ok mixed Try.func203 (c := slices_IndexFunc_impl_Lot_impl_Lot__impl_House_lot_1_code) (by kernel_rfl) (slices_IndexFunc_impl_Lot_impl_Lot__impl_House_lot_1_lo n) (by kernel_rfl) (by kernel_rfl) (by kernel_rfl) slices_IndexFunc_impl_Lot_impl_Lot__impl_House_lot_1_de ((slices_IndexFunc_impl_Lot_impl_Lot__impl_House_lot_1_tie n s0 f1c0).trans h)
  · cases h
noncomputable def impl_House_lot_code : Code := match Try.f144.body with | some c => c | none => .skip
def impl_House_lot_ann : Ann := fun id => none
def impl_House_lot_Ls (n : Nat) : Nat → Option (LSpec T) := fun id => none
theorem impl_House_lot_tie (n : Nat) (h0 : SHouse) (id1 : Int) : evF (T := T) (Phi n 28) (impl_House_lot_Ls n) impl_House_lot_ann n Try.f144 (sg 144) [vA T 92 h0, vA T 3 id1] impl_House_lot_dec = impl_House_lot n h0 id1 := by kernel_rfl
theorem impl_House_lot_lo (n : Nat) : LoopsOk (T := T) (Phi n 28) (impl_House_lot_Ls n) impl_House_lot_ann n impl_House_lot_code := loopsOk_all (cs := []) (by kernel_rfl) trivial
theorem impl_House_lot_ok (n : Nat) : EntOk Try.prog (ents n) (impl_House_lot_ent n) := by
  intro hs ar y hg h
  replace h : impl_House_lot_D n ar = some y := h
  unfold impl_House_lot_D at h
  replace h := ocons_some h
  obtain ⟨a0, r0, rfl, h⟩ := h
  replace h := ocons_some h
  obtain ⟨a1, r1, rfl, h⟩ := h
  replace h := onil_some h
  obtain ⟨rfl, h⟩ := h
  obtain ⟨h0, qh0, h⟩ := obind_some h
  obtain ⟨id1, qh1, h⟩ := obind_some h
  rw [argV_eq ok qh0, argV_eq ok qh1]
  exact call_of (phiE_nat _ _) hs ok mixed Try.func144 (c := impl_House_lot_code) (by kernel_rfl) (impl_House_lot_lo n) (by kernel_rfl) (by kernel_rfl) (by kernel_rfl) impl_House_lot_de ((impl_House_lot_tie n h0 id1).trans h)
noncomputable def impl_DoDeed_1_code : Code := match Try.f143.body with | some c => c | none => .skip
def impl_DoDeed_1_ann : Ann := fun id => none
def impl_DoDeed_1_Ls (n : Nat) : Nat → Option (LSpec T) := fun id => none
theorem impl_DoDeed_1_tie (n : Nat) (id0 : Int) (a1 : SHouse) : evF (T := T) (Phi n 29) (impl_DoDeed_1_Ls n) impl_DoDeed_1_ann n Try.f143 (sg 143) [vA T 3 id0, .ptr 92 a1] impl_DoDeed_1_dec = impl_DoDeed_1 n id0 a1 := by kernel_rfl
theorem impl_DoDeed_1_lo (n : Nat) : LoopsOk (T := T) (Phi n 29) (impl_DoDeed_1_Ls n) impl_DoDeed_1_ann n impl_DoDeed_1_code := loopsOk_all (cs := []) (by kernel_rfl) trivial
theorem impl_DoDeed_1_ok (n : Nat) : EntOk Try.prog (ents n) (impl_DoDeed_1_ent n) := by
  intro hs ar y hg h
  replace h : impl_DoDeed_1_D n ar = some y := h
  unfold impl_DoDeed_1_D at h
  replace h := ocons_some h
  obtain ⟨a0, r0, rfl, h⟩ := h
  replace h := ocons_some h
  obtain ⟨a1, r1, rfl, h⟩ := h
  replace h := onil_some h
  obtain ⟨rfl, h⟩ := h
  obtain ⟨id0, qh0, h⟩ := obind_some h
  obtain ⟨a1, qh1, h⟩ := obind_some h
  rw [argV_eq ok qh0, argP_eq qh1]
  exact call_of (phiE_nat _ _) hs ok mixed Try.func143 (c := impl_DoDeed_1_code) (by kernel_rfl) (impl_DoDeed_1_lo n) (by kernel_rfl) (by kernel_rfl) (by kernel_rfl) impl_DoDeed_1_de ((impl_DoDeed_1_tie n id0 a1).trans h)
noncomputable def impl_House_put_1_code : Code := match Try.f206.body with | some c => c | none => .skip
def impl_House_put_1_ann : Ann := fun id => none
def impl_House_put_1_Ls (n : Nat) : Nat → Option (LSpec T) := fun id => none
theorem impl_House_put_1_tie (n : Nat) (a0 : SLot) (b1 : SLot) : evF (T := T) (Phi n 30) (impl_House_put_1_Ls n) impl_House_put_1_ann n Try.f206 (sg 206) [vA T 116 a0, vA T 116 b1] impl_House_put_1_dec = impl_House_put_1 n a0 b1 := by kernel_rfl
theorem impl_House_put_1_lo (n : Nat) : LoopsOk (T := T) (Phi n 30) (impl_House_put_1_Ls n) impl_House_put_1_ann n impl_House_put_1_code := loopsOk_all (cs := []) (by kernel_rfl) trivial
theorem impl_House_put_1_ok (n : Nat) : EntOk Try.prog (ents n) (impl_House_put_1_ent n) := by
  intro hs ar y hg h
  replace h : impl_House_put_1_D n ar = some y := h
  unfold impl_House_put_1_D at h
  replace h := ocons_some h
  obtain ⟨a0, r0, rfl, h⟩ := h
  replace h := ocons_some h
  obtain ⟨a1, r1, rfl, h⟩ := h
  replace h := onil_some h
  obtain ⟨rfl, h⟩ := h
  obtain ⟨a0, qh0, h⟩ := obind_some h
  obtain ⟨b1, qh1, h⟩ := obind_some h
  rw [argV_eq ok qh0, argV_eq ok qh1]
  exact call_of (phiE_nat _ _) hs ok mixed Try.func206 (c := impl_House_put_1_code) (by kernel_rfl) (impl_House_put_1_lo n) (by kernel_rfl) (by kernel_rfl) (by kernel_rfl) impl_House_put_1_de ((impl_House_put_1_tie n a0 b1).trans h)
theorem slices_SortFunc_impl_Lot_impl_Lot__impl_House_put_1_cl (n : Nat) (x y : U 116) : PhiE (T := T) (ents n) 31 206 [vA T 116 x, vA T 116 y] some = (impl_House_put_1 n x y).bind fun r => some (impl_House_put_1_enc r) := by kernel_rfl
theorem slices_SortFunc_impl_Lot_impl_Lot__impl_House_put_1_ok (n : Nat) : EntOk Try.prog (ents n) (slices_SortFunc_impl_Lot_impl_Lot__impl_House_put_1_ent n) := by
  intro hs ar y hg h
  replace h : slices_SortFunc_impl_Lot_impl_Lot__impl_House_put_1_D n ar = some y := h
  unfold slices_SortFunc_impl_Lot_impl_Lot__impl_House_put_1_D at h
  split at h
  · obtain ⟨l0, qh0, h⟩ := obind_some h
    rw [argV_eq ok qh0] at hg ⊢
    cases (show [_] = [206] from natsEq_eq hg)
    refine sortL_call ok lay205 (e := 116) (g := 206) (caps := []) (by kernel_rfl) (by kernel_rfl) (by decide) (by kernel_rfl) (by kernel_rfl) (by kernel_rfl) (by kernel_rfl) (fun x y c hc => ?_) h
    have h1 : PhiE (T := T) (ents n) 31 206 [vA T 116 x, vA T 116 y] some = some (impl_House_put_1_enc c) := (slices_SortFunc_impl_Lot_impl_Lot__impl_House_put_1_cl n x y).trans (by rw [show impl_House_put_1 n x y = some c from hc]; rfl)
    obtain ⟨res, h2, h3⟩ := hs _ _ _ _ h1
    cases h3
    exact h2
  · cases h
noncomputable def impl_House_put_code : Code := match Try.f145.body with | some c => c | none => .skip
def impl_House_put_ann : Ann := fun id => none
def impl_House_put_Ls (n : Nat) : Nat → Option (LSpec T) := fun id => none
theorem impl_House_put_tie (n : Nat) (h0 : SHouse) (l1 : SLot) : evF (T := T) (Phi n 32) (impl_House_put_Ls n) impl_House_put_ann n Try.f145 (sg 145) [.ptr 92 h0, vA T 116 l1] impl_House_put_dec = impl_House_put n h0 l1 := by kernel_rfl
theorem impl_House_put_lo (n : Nat) : LoopsOk (T := T) (Phi n 32) (impl_House_put_Ls n) impl_House_put_ann n impl_House_put_code := loopsOk_all (cs := []) (by kernel_rfl) trivial
theorem impl_House_put_ok (n : Nat) : EntOk Try.prog (ents n) (impl_House_put_ent n) := by
  intro hs ar y hg h
  replace h : impl_House_put_D n ar = some y := h
  unfold impl_House_put_D at h
  replace h := ocons_some h
  obtain ⟨a0, r0, rfl, h⟩ := h
  replace h := ocons_some h
  obtain ⟨a1, r1, rfl, h⟩ := h
  replace h := onil_some h
  obtain ⟨rfl, h⟩ := h
  obtain ⟨h0, qh0, h⟩ := obind_some h
  obtain ⟨l1, qh1, h⟩ := obind_some h
  rw [argP_eq qh0, argV_eq ok qh1]
  exact call_of (phiE_nat _ _) hs ok mixed Try.func145 (c := impl_House_put_code) (by kernel_rfl) (impl_House_put_lo n) (by kernel_rfl) (by kernel_rfl) (by kernel_rfl) impl_House_put_de ((impl_House_put_tie n h0 l1).trans h)
noncomputable def impl_DoDeed_code : Code := match Try.f52.body with | some c => c | none => .skip
def impl_DoDeed_ann : Ann := fun id => none
def impl_DoDeed_Ls (n : Nat) : Nat → Option (LSpec T) := fun id => none
theorem impl_DoDeed_tie (n : Nat) (h0 : SHouse) (d1 : SDeed) : evF (T := T) (Phi n 33) (impl_DoDeed_Ls n) impl_DoDeed_ann n Try.f52 (sg 52) [vA T 92 h0, vA T 96 d1] impl_DoDeed_dec = impl_DoDeed n h0 d1 := by kernel_rfl
theorem impl_DoDeed_lo (n : Nat) : LoopsOk (T := T) (Phi n 33) (impl_DoDeed_Ls n) impl_DoDeed_ann n impl_DoDeed_code := loopsOk_all (cs := []) (by kernel_rfl) trivial
theorem impl_DoDeed_ok (n : Nat) : EntOk Try.prog (ents n) (impl_DoDeed_ent n) := by
  intro hs ar y hg h
  replace h : impl_DoDeed_D n ar = some y := h
  unfold impl_DoDeed_D at h
  replace h := ocons_some h
  obtain ⟨a0, r0, rfl, h⟩ := h
  replace h := ocons_some h
  obtain ⟨a1, r1, rfl, h⟩ := h
  replace h := onil_some h
  obtain ⟨rfl, h⟩ := h
  obtain ⟨h0, qh0, h⟩ := obind_some h
  obtain ⟨d1, qh1, h⟩ := obind_some h
  rw [argV_eq ok qh0, argV_eq ok qh1]
  exact call_of (phiE_nat _ _) hs ok mixed Try.func52 (c := impl_DoDeed_code) (by kernel_rfl) (impl_DoDeed_lo n) (by kernel_rfl) (by kernel_rfl) (by kernel_rfl) impl_DoDeed_de ((impl_DoDeed_tie n h0 d1).trans h)
noncomputable def impl_own_int_code : Code := match Try.f104.body with | some c => c | none => .skip
def impl_own_int_ann : Ann := fun id => none
def impl_own_int_Ls (n : Nat) : Nat → Option (LSpec T) := fun id => none
theorem impl_own_int_tie (n : Nat) (l0 : List Int) : evF (T := T) (Phi n 34) (impl_own_int_Ls n) impl_own_int_ann n Try.f104 (sg 104) [vA T 23 l0] impl_own_int_dec = impl_own_int n l0 := by kernel_rfl
theorem impl_own_int_lo (n : Nat) : LoopsOk (T := T) (Phi n 34) (impl_own_int_Ls n) impl_own_int_ann n impl_own_int_code := loopsOk_all (cs := []) (by kernel_rfl) trivial
theorem impl_own_int_ok (n : Nat) : EntOk Try.prog (ents n) (impl_own_int_ent n) := by
  intro hs ar y hg h
  replace h : impl_own_int_D n ar = some y := h
  unfold impl_own_int_D at h
  replace h := ocons_some h
  obtain ⟨a0, r0, rfl, h⟩ := h
  replace h := onil_some h
  obtain ⟨rfl, h⟩ := h
  obtain ⟨l0, qh0, h⟩ := obind_some h
  rw [argV_eq ok qh0]
  exact call_of (phiE_nat _ _) hs ok mixed Try.func104 (c := impl_own_int_code) (by kernel_rfl) (impl_own_int_lo n) (by kernel_rfl) (by kernel_rfl) (by kernel_rfl) impl_own_int_de ((impl_own_int_tie n l0).trans h)
noncomputable def impl_RunDeeds_code : Code := match Try.f59.body with | some c => c | none => .skip
def impl_RunDeeds_6_sv : List Sv := [.one (.ptr 16 0 0), .one (.ptr 32 0 0), .one (.own 3000000 3 false), .one (.arr 96), .one (.int .i64), .one (.int .i64)]
def impl_RunDeeds_6_so : List So := [.var [.own 3000001 116 false, .own 3000002 114 false, .int .i64], .arr 116 false, .arr 114 false, .var [.own 3000003 116 false, .own 3000004 114 false, .int .i64], .arr 116 false, .arr 114 false, .arr 3 false]
def impl_RunDeeds_6_emb (c : List SDeed × Int × Int × List SLot × List STrader) (x : Int × Int × List SLot × List STrader × List Int) : EVs T impl_RunDeeds_6_sv × EOs T impl_RunDeeds_6_so := (((), (), (), c.1, c.2.1, x.1, ()), (((), (), x.2.1, ()), x.2.2.1, x.2.2.2.1, ((), (), c.2.2.1, ()), c.2.2.2.1, c.2.2.2.2, x.2.2.2.2, ()))
def impl_RunDeeds_6_prj (y : EVs T impl_RunDeeds_6_sv × EOs T impl_RunDeeds_6_so) : (List SDeed × Int × Int × List SLot × List STrader) × (Int × Int × List SLot × List STrader × List Int) := ((y.1.2.2.2.1, y.1.2.2.2.2.1, y.2.2.2.2.1.2.2.1, y.2.2.2.2.2.1, y.2.2.2.2.2.2.1), (y.1.2.2.2.2.2.1, y.2.1.2.2.1, y.2.2.1, y.2.2.2.1, y.2.2.2.2.2.2.2.1))
def impl_RunDeeds_6_b (n : Nat) {R : Type} (K : Ex → Sm.St T → Option R) (c : List SDeed × Int × Int × List SLot × List STrader) (x : Int × Int × List SLot × List STrader × List Int) (J : (Int × Int × List SLot × List STrader × List Int) → Option R) : Option R :=
  impl_RunDeeds_L6 n (fun (y0 : Int) (y1 : List SLot) (y2 : List STrader) (y6 : List Int) => K (.exit 0) (stOf (T := T) [2, 4, 6] [16, 3000001, 3000002, 32, 3000003, 3000004, 3000000] [.one (.ptr 16 0 0), .one (.ptr 32 0 0), .one (.own 3000000 3 false)] [.var [.own 3000001 116 false, .own 3000002 114 false, .int .i64], .arr 116 false, .arr 114 false, .var [.own 3000003 116 false, .own 3000004 114 false, .int .i64], .arr 116 false, .arr 114 false, .arr 3 false] ((), (), (), ()) (((), (), y0, ()), y1, y2, ((), (), c.2.2.1, ()), c.2.2.2.1, c.2.2.2.2, y6, ()))) (fun z0 z1 z2 z3 z4 => J (z0, z1, z2, z3, z4)) c.1 c.2.1 x.1 x.2.1 x.2.2.1 x.2.2.2.1 c.2.2.1 c.2.2.2.1 c.2.2.2.2 x.2.2.2.2
def impl_RunDeeds_6_sp (n : Nat) : LSpec T := mkSpec T ⟨[((.reg 6), 3000000, 3), ((.cell 16 0), 3000001, 116), ((.cell 16 1), 3000002, 114), ((.cell 32 0), 3000003, 116), ((.cell 32 1), 3000004, 114)], [2, 4, 6, 16, 17, 18], [16, 3000001, 3000002, 32, 3000003, 3000004, 3000000]⟩ impl_RunDeeds_6_sv impl_RunDeeds_6_so (List SDeed × Int × Int × List SLot × List STrader) (Int × Int × List SLot × List STrader × List Int) impl_RunDeeds_6_emb impl_RunDeeds_6_prj (impl_RunDeeds_6_b n)
noncomputable def impl_RunDeeds_6_c : Code := ((loopCodes impl_RunDeeds_code)[0]?).getD .skip
def impl_RunDeeds_ann : Ann := fun id => bif Nat.beq id 3000006 then some ⟨[((.reg 6), 3000000, 3), ((.cell 16 0), 3000001, 116), ((.cell 16 1), 3000002, 114), ((.cell 32 0), 3000003, 116), ((.cell 32 1), 3000004, 114)], [2, 4, 6], [16, 3000001, 3000002, 32, 3000003, 3000004, 3000000]⟩ else none
def impl_RunDeeds_Ls (n : Nat) : Nat → Option (LSpec T) := fun id => bif Nat.beq id 6 then some (impl_RunDeeds_6_sp n) else none
theorem impl_RunDeeds_6_le (n : Nat) : LoopEq (T := T) (Phi n 35) (impl_RunDeeds_Ls n) impl_RunDeeds_ann n impl_RunDeeds_6_c (impl_RunDeeds_6_sp n) := ⟨mkSpec_dec (fun y => rfl), fun c x => by kernel_rfl, fun K J c x => by kernel_rfl⟩
theorem impl_RunDeeds_tie (n : Nat) (h0 : SHouse) (list1 : List SDeed) : evF (T := T) (Phi n 35) (impl_RunDeeds_Ls n) impl_RunDeeds_ann n Try.f59 (sg 59) [vA T 92 h0, vA T 105 list1] impl_RunDeeds_dec = impl_RunDeeds n h0 list1 := by kernel_rfl
theorem impl_RunDeeds_lo (n : Nat) : LoopsOk (T := T) (Phi n 35) (impl_RunDeeds_Ls n) impl_RunDeeds_ann n impl_RunDeeds_code := loopsOk_all (cs := [impl_RunDeeds_6_c]) (by kernel_rfl) ⟨⟨_, by kernel_rfl, impl_RunDeeds_6_le n⟩, trivial⟩
theorem impl_RunDeeds_ok (n : Nat) : EntOk Try.prog (ents n) (impl_RunDeeds_ent n) := by
  intro hs ar y hg h
  replace h : impl_RunDeeds_D n ar = some y := h
  unfold impl_RunDeeds_D at h
  replace h := ocons_some h
  obtain ⟨a0, r0, rfl, h⟩ := h
  replace h := ocons_some h
  obtain ⟨a1, r1, rfl, h⟩ := h
  replace h := onil_some h
  obtain ⟨rfl, h⟩ := h
  obtain ⟨h0, qh0, h⟩ := obind_some h
  obtain ⟨list1, qh1, h⟩ := obind_some h
  rw [argV_eq ok qh0, argV_eq ok qh1]
  exact call_of (phiE_nat _ _) hs ok mixed Try.func59 (c := impl_RunDeeds_code) (by kernel_rfl) (impl_RunDeeds_lo n) (by kernel_rfl) (by kernel_rfl) (by kernel_rfl) impl_RunDeeds_de ((impl_RunDeeds_tie n h0 list1).trans h)
noncomputable def laws_FnCustoms_code : Code := match Try.f10.body with | some c => c | none => .skip
def laws_FnCustoms_6_sv : List Sv := [.one (.ptr 24 0 0), .one (.arr 96), .one (.ptr 40 0 0), .one (.int .i64)]
def laws_FnCustoms_6_so : List So := [.var [.arr 116, .arr 114, .int .i64], .var [.arr 116, .arr 114, .int .i64]]
def laws_FnCustoms_6_emb (c : List SDeed × SHouse) (x : Int × SHouse) : EVs T laws_FnCustoms_6_sv × EOs T laws_FnCustoms_6_so := (((), c.1, (), x.1, ()), ((c.2.Lots, c.2.Traders, c.2.Taken, ()), (x.2.Lots, x.2.Traders, x.2.Taken, ()), ()))
def laws_FnCustoms_6_prj (y : EVs T laws_FnCustoms_6_sv × EOs T laws_FnCustoms_6_so) : (List SDeed × SHouse) × (Int × SHouse) := ((y.1.2.1, ((⟨y.2.1.1, y.2.1.2.1, y.2.1.2.2.1⟩ : SHouse) : SHouse)), (y.1.2.2.2.1, ((⟨y.2.2.1.1, y.2.2.1.2.1, y.2.2.1.2.2.1⟩ : SHouse) : SHouse)))
def laws_FnCustoms_6_b (n : Nat) {R : Type} (K : Ex → Sm.St T → Option R) (c : List SDeed × SHouse) (x : Int × SHouse) (J : (Int × SHouse) → Option R) : Option R :=
  laws_FnCustoms_L6 n (fun (y2 : SHouse) => K (.exit 0) (stOf (T := T) [3, 4, 5] [24, 40] [.one (.ptr 24 0 0), .one (.arr 96), .one (.ptr 40 0 0)] [.var [.arr 116, .arr 114, .int .i64], .var [.arr 116, .arr 114, .int .i64]] ((), c.1, (), ()) ((c.2.Lots, c.2.Traders, c.2.Taken, ()), (y2.Lots, y2.Traders, y2.Taken, ()), ()))) (fun (y0 : Bool) => K .ret (stOf (T := T) [2] [] [.one (.bool)] [] (y0, ()) ())) (fun z0 z1 => J (z0, z1)) c.1 x.1 c.2 x.2
def laws_FnCustoms_6_sp (n : Nat) : LSpec T := mkSpec T ⟨[((.cell 40 0), 116, 999999), ((.cell 40 1), 114, 999999)], [3, 4, 5, 6], [24, 40]⟩ laws_FnCustoms_6_sv laws_FnCustoms_6_so (List SDeed × SHouse) (Int × SHouse) laws_FnCustoms_6_emb laws_FnCustoms_6_prj (laws_FnCustoms_6_b n)
noncomputable def laws_FnCustoms_6_c : Code := ((loopCodes laws_FnCustoms_code)[0]?).getD .skip
def laws_FnCustoms_13_sv : List Sv := [.one (.ptr 24 0 0), .one (.arr 96), .one (.ptr 40 0 0), .one (.int .i64), .one (.ptr 56 0 0), .one (.int .i64), .one (.int .i64), .one (.int .i64)]
def laws_FnCustoms_13_so : List So := [.var [.arr 116, .arr 114, .int .i64], .var [.arr 116, .arr 114, .int .i64], .var [.own 3000000 116 false, .own 3000001 114 false, .int .i64], .arr 116 false, .arr 114 false]
def laws_FnCustoms_13_emb (c : List SDeed × Int × Int × SHouse × SHouse × Int × List SLot × List STrader) (x : Int × Int) : EVs T laws_FnCustoms_13_sv × EOs T laws_FnCustoms_13_so := (((), c.1, (), c.2.1, (), c.2.2.1, x.1, x.2, ()), ((c.2.2.2.1.Lots, c.2.2.2.1.Traders, c.2.2.2.1.Taken, ()), (c.2.2.2.2.1.Lots, c.2.2.2.2.1.Traders, c.2.2.2.2.1.Taken, ()), ((), (), c.2.2.2.2.2.1, ()), c.2.2.2.2.2.2.1, c.2.2.2.2.2.2.2, ()))
def laws_FnCustoms_13_prj (y : EVs T laws_FnCustoms_13_sv × EOs T laws_FnCustoms_13_so) : (List SDeed × Int × Int × SHouse × SHouse × Int × List SLot × List STrader) × (Int × Int) := ((y.1.2.1, y.1.2.2.2.1, y.1.2.2.2.2.2.1, ((⟨y.2.1.1, y.2.1.2.1, y.2.1.2.2.1⟩ : SHouse) : SHouse), ((⟨y.2.2.1.1, y.2.2.1.2.1, y.2.2.1.2.2.1⟩ : SHouse) : SHouse), y.2.2.2.1.2.2.1, y.2.2.2.2.1, y.2.2.2.2.2.1), (y.1.2.2.2.2.2.2.1, y.1.2.2.2.2.2.2.2.1))
def laws_FnCustoms_13_b (n : Nat) {R : Type} (K : Ex → Sm.St T → Option R) (c : List SDeed × Int × Int × SHouse × SHouse × Int × List SLot × List STrader) (x : Int × Int) (J : (Int × Int) → Option R) : Option R :=
  laws_FnCustoms_L13 n (fun (y3 : Int) => K (.exit 2) (stOf (T := T) [3, 4, 5, 6, 7, 8, 9] [24, 40, 56, 3000000, 3000001] [.one (.ptr 24 0 0), .one (.arr 96), .one (.ptr 40 0 0), .one (.int .i64), .one (.ptr 56 0 0), .one (.int .i64), .one (.int .i64)] [.var [.arr 116, .arr 114, .int .i64], .var [.arr 116, .arr 114, .int .i64], .var [.own 3000000 116 false, .own 3000001 114 false, .int .i64], .arr 116 false, .arr 114 false] ((), c.1, (), c.2.1, (), c.2.2.1, y3, ()) ((c.2.2.2.1.Lots, c.2.2.2.1.Traders, c.2.2.2.1.Taken, ()), (c.2.2.2.2.1.Lots, c.2.2.2.2.1.Traders, c.2.2.2.2.1.Taken, ()), ((), (), c.2.2.2.2.2.1, ()), c.2.2.2.2.2.2.1, c.2.2.2.2.2.2.2, ()))) (fun z0 z1 => J (z0, z1)) c.1 c.2.1 c.2.2.1 x.1 x.2 c.2.2.2.1 c.2.2.2.2.1 c.2.2.2.2.2.1 c.2.2.2.2.2.2.1 c.2.2.2.2.2.2.2
def laws_FnCustoms_13_sp (n : Nat) : LSpec T := mkSpec T ⟨[((.cell 56 0), 3000000, 116), ((.cell 56 1), 3000001, 114)], [3, 4, 5, 6, 7, 8, 9, 10], [24, 40, 56, 3000000, 3000001]⟩ laws_FnCustoms_13_sv laws_FnCustoms_13_so (List SDeed × Int × Int × SHouse × SHouse × Int × List SLot × List STrader) (Int × Int) laws_FnCustoms_13_emb laws_FnCustoms_13_prj (laws_FnCustoms_13_b n)
noncomputable def laws_FnCustoms_13_c : Code := ((loopCodes laws_FnCustoms_code)[1]?).getD .skip
def laws_FnCustoms_20_sv : List Sv := [.one (.ptr 24 0 0), .one (.arr 96), .one (.ptr 40 0 0), .one (.int .i64), .one (.ptr 56 0 0), .one (.int .i64), .one (.int .i64), .one (.int .i64), .one (.int .i64)]
def laws_FnCustoms_20_so : List So := [.var [.arr 116, .arr 114, .int .i64], .var [.arr 116, .arr 114, .int .i64], .var [.own 3000000 116 false, .own 3000001 114 false, .int .i64], .arr 116 false, .arr 114 false]
def laws_FnCustoms_20_emb (c : List SDeed × Int × Int × Int × SHouse × SHouse × Int × List SLot × List STrader) (x : Int × Int) : EVs T laws_FnCustoms_20_sv × EOs T laws_FnCustoms_20_so := (((), c.1, (), c.2.1, (), c.2.2.1, x.1, c.2.2.2.1, x.2, ()), ((c.2.2.2.2.1.Lots, c.2.2.2.2.1.Traders, c.2.2.2.2.1.Taken, ()), (c.2.2.2.2.2.1.Lots, c.2.2.2.2.2.1.Traders, c.2.2.2.2.2.1.Taken, ()), ((), (), c.2.2.2.2.2.2.1, ()), c.2.2.2.2.2.2.2.1, c.2.2.2.2.2.2.2.2, ()))
def laws_FnCustoms_20_prj (y : EVs T laws_FnCustoms_20_sv × EOs T laws_FnCustoms_20_so) : (List SDeed × Int × Int × Int × SHouse × SHouse × Int × List SLot × List STrader) × (Int × Int) := ((y.1.2.1, y.1.2.2.2.1, y.1.2.2.2.2.2.1, y.1.2.2.2.2.2.2.2.1, ((⟨y.2.1.1, y.2.1.2.1, y.2.1.2.2.1⟩ : SHouse) : SHouse), ((⟨y.2.2.1.1, y.2.2.1.2.1, y.2.2.1.2.2.1⟩ : SHouse) : SHouse), y.2.2.2.1.2.2.1, y.2.2.2.2.1, y.2.2.2.2.2.1), (y.1.2.2.2.2.2.2.1, y.1.2.2.2.2.2.2.2.2.1))
def laws_FnCustoms_20_b (n : Nat) {R : Type} (K : Ex → Sm.St T → Option R) (c : List SDeed × Int × Int × Int × SHouse × SHouse × Int × List SLot × List STrader) (x : Int × Int) (J : (Int × Int) → Option R) : Option R :=
  laws_FnCustoms_L20 n (fun (y3 : Int) => K (.exit 4) (stOf (T := T) [3, 4, 5, 6, 7, 8, 11, 12] [24, 40, 56, 3000000, 3000001] [.one (.ptr 24 0 0), .one (.arr 96), .one (.ptr 40 0 0), .one (.int .i64), .one (.ptr 56 0 0), .one (.int .i64), .one (.int .i64), .one (.int .i64)] [.var [.arr 116, .arr 114, .int .i64], .var [.arr 116, .arr 114, .int .i64], .var [.own 3000000 116 false, .own 3000001 114 false, .int .i64], .arr 116 false, .arr 114 false] ((), c.1, (), c.2.1, (), c.2.2.1, y3, c.2.2.2.1, ()) ((c.2.2.2.2.1.Lots, c.2.2.2.2.1.Traders, c.2.2.2.2.1.Taken, ()), (c.2.2.2.2.2.1.Lots, c.2.2.2.2.2.1.Traders, c.2.2.2.2.2.1.Taken, ()), ((), (), c.2.2.2.2.2.2.1, ()), c.2.2.2.2.2.2.2.1, c.2.2.2.2.2.2.2.2, ()))) (fun z0 z1 => J (z0, z1)) c.1 c.2.1 c.2.2.1 x.1 c.2.2.2.1 x.2 c.2.2.2.2.1 c.2.2.2.2.2.1 c.2.2.2.2.2.2.1 c.2.2.2.2.2.2.2.1 c.2.2.2.2.2.2.2.2
def laws_FnCustoms_20_sp (n : Nat) : LSpec T := mkSpec T ⟨[((.cell 56 0), 3000000, 116), ((.cell 56 1), 3000001, 114)], [3, 4, 5, 6, 7, 8, 11, 12, 13], [24, 40, 56, 3000000, 3000001]⟩ laws_FnCustoms_20_sv laws_FnCustoms_20_so (List SDeed × Int × Int × Int × SHouse × SHouse × Int × List SLot × List STrader) (Int × Int) laws_FnCustoms_20_emb laws_FnCustoms_20_prj (laws_FnCustoms_20_b n)
noncomputable def laws_FnCustoms_20_c : Code := ((loopCodes laws_FnCustoms_code)[2]?).getD .skip
def laws_FnCustoms_24_sv : List Sv := [.one (.ptr 24 0 0), .one (.arr 96), .one (.ptr 40 0 0), .one (.int .i64), .one (.ptr 56 0 0), .one (.int .i64), .one (.int .i64), .one (.int .i64), .one (.int .i64)]
def laws_FnCustoms_24_so : List So := [.var [.arr 116, .arr 114, .int .i64], .var [.arr 116, .arr 114, .int .i64], .var [.own 3000000 116 false, .own 3000001 114 false, .int .i64], .arr 116 false, .arr 114 false]
def laws_FnCustoms_24_emb (c : List SDeed × Int × Int × Int × SHouse × SHouse × Int × List SLot × List STrader) (x : Int × Int) : EVs T laws_FnCustoms_24_sv × EOs T laws_FnCustoms_24_so := (((), c.1, (), c.2.1, (), c.2.2.1, c.2.2.2.1, x.1, x.2, ()), ((c.2.2.2.2.1.Lots, c.2.2.2.2.1.Traders, c.2.2.2.2.1.Taken, ()), (c.2.2.2.2.2.1.Lots, c.2.2.2.2.2.1.Traders, c.2.2.2.2.2.1.Taken, ()), ((), (), c.2.2.2.2.2.2.1, ()), c.2.2.2.2.2.2.2.1, c.2.2.2.2.2.2.2.2, ()))
def laws_FnCustoms_24_prj (y : EVs T laws_FnCustoms_24_sv × EOs T laws_FnCustoms_24_so) : (List SDeed × Int × Int × Int × SHouse × SHouse × Int × List SLot × List STrader) × (Int × Int) := ((y.1.2.1, y.1.2.2.2.1, y.1.2.2.2.2.2.1, y.1.2.2.2.2.2.2.1, ((⟨y.2.1.1, y.2.1.2.1, y.2.1.2.2.1⟩ : SHouse) : SHouse), ((⟨y.2.2.1.1, y.2.2.1.2.1, y.2.2.1.2.2.1⟩ : SHouse) : SHouse), y.2.2.2.1.2.2.1, y.2.2.2.2.1, y.2.2.2.2.2.1), (y.1.2.2.2.2.2.2.2.1, y.1.2.2.2.2.2.2.2.2.1))
def laws_FnCustoms_24_b (n : Nat) {R : Type} (K : Ex → Sm.St T → Option R) (c : List SDeed × Int × Int × Int × SHouse × SHouse × Int × List SLot × List STrader) (x : Int × Int) (J : (Int × Int) → Option R) : Option R :=
  laws_FnCustoms_L24 n (fun (y4 : Int) => K (.exit 6) (stOf (T := T) [3, 4, 5, 6, 7, 8, 11, 12] [24, 40, 56, 3000000, 3000001] [.one (.ptr 24 0 0), .one (.arr 96), .one (.ptr 40 0 0), .one (.int .i64), .one (.ptr 56 0 0), .one (.int .i64), .one (.int .i64), .one (.int .i64)] [.var [.arr 116, .arr 114, .int .i64], .var [.arr 116, .arr 114, .int .i64], .var [.own 3000000 116 false, .own 3000001 114 false, .int .i64], .arr 116 false, .arr 114 false] ((), c.1, (), c.2.1, (), c.2.2.1, c.2.2.2.1, y4, ()) ((c.2.2.2.2.1.Lots, c.2.2.2.2.1.Traders, c.2.2.2.2.1.Taken, ()), (c.2.2.2.2.2.1.Lots, c.2.2.2.2.2.1.Traders, c.2.2.2.2.2.1.Taken, ()), ((), (), c.2.2.2.2.2.2.1, ()), c.2.2.2.2.2.2.2.1, c.2.2.2.2.2.2.2.2, ()))) (fun (y0 : Bool) => K .ret (stOf (T := T) [2] [] [.one (.bool)] [] (y0, ()) ())) (fun z0 z1 => J (z0, z1)) c.1 c.2.1 c.2.2.1 c.2.2.2.1 x.1 x.2 c.2.2.2.2.1 c.2.2.2.2.2.1 c.2.2.2.2.2.2.1 c.2.2.2.2.2.2.2.1 c.2.2.2.2.2.2.2.2
def laws_FnCustoms_24_sp (n : Nat) : LSpec T := mkSpec T ⟨[((.cell 56 0), 3000000, 116), ((.cell 56 1), 3000001, 114)], [3, 4, 5, 6, 7, 8, 11, 12, 14], [24, 40, 56, 3000000, 3000001]⟩ laws_FnCustoms_24_sv laws_FnCustoms_24_so (List SDeed × Int × Int × Int × SHouse × SHouse × Int × List SLot × List STrader) (Int × Int) laws_FnCustoms_24_emb laws_FnCustoms_24_prj (laws_FnCustoms_24_b n)
noncomputable def laws_FnCustoms_24_c : Code := ((loopCodes laws_FnCustoms_code)[3]?).getD .skip
def laws_FnCustoms_29_sv : List Sv := [.one (.ptr 24 0 0), .one (.arr 96), .one (.ptr 40 0 0), .one (.int .i64), .one (.ptr 56 0 0), .one (.int .i64), .one (.int .i64), .one (.int .i64), .one (.int .i64), .one (.ptr 120 0 0), .one (.int .i64)]
def laws_FnCustoms_29_so : List So := [.var [.arr 116, .arr 114, .int .i64], .var [.arr 116, .arr 114, .int .i64], .var [.own 3000000 116 false, .own 3000001 114 false, .int .i64], .arr 116 false, .arr 114 false, .var [.int .i64, .int .i64, .int .i64, .int .i64, .int .i64, .int .i64, .int .i64]]
def laws_FnCustoms_29_emb (c : List SDeed × Int × Int × Int × Int × Int × SHouse × SHouse × Int × List SLot × List STrader × SLot) (x : Int) : EVs T laws_FnCustoms_29_sv × EOs T laws_FnCustoms_29_so := (((), c.1, (), c.2.1, (), c.2.2.1, c.2.2.2.1, c.2.2.2.2.1, c.2.2.2.2.2.1, (), x, ()), ((c.2.2.2.2.2.2.1.Lots, c.2.2.2.2.2.2.1.Traders, c.2.2.2.2.2.2.1.Taken, ()), (c.2.2.2.2.2.2.2.1.Lots, c.2.2.2.2.2.2.2.1.Traders, c.2.2.2.2.2.2.2.1.Taken, ()), ((), (), c.2.2.2.2.2.2.2.2.1, ()), c.2.2.2.2.2.2.2.2.2.1, c.2.2.2.2.2.2.2.2.2.2.1, (c.2.2.2.2.2.2.2.2.2.2.2.Id, c.2.2.2.2.2.2.2.2.2.2.2.Owner, c.2.2.2.2.2.2.2.2.2.2.2.Many, c.2.2.2.2.2.2.2.2.2.2.2.Value, c.2.2.2.2.2.2.2.2.2.2.2.Rate, c.2.2.2.2.2.2.2.2.2.2.2.State, c.2.2.2.2.2.2.2.2.2.2.2.Bond, ()), ()))
def laws_FnCustoms_29_prj (y : EVs T laws_FnCustoms_29_sv × EOs T laws_FnCustoms_29_so) : (List SDeed × Int × Int × Int × Int × Int × SHouse × SHouse × Int × List SLot × List STrader × SLot) × Int := ((y.1.2.1, y.1.2.2.2.1, y.1.2.2.2.2.2.1, y.1.2.2.2.2.2.2.1, y.1.2.2.2.2.2.2.2.1, y.1.2.2.2.2.2.2.2.2.1, ((⟨y.2.1.1, y.2.1.2.1, y.2.1.2.2.1⟩ : SHouse) : SHouse), ((⟨y.2.2.1.1, y.2.2.1.2.1, y.2.2.1.2.2.1⟩ : SHouse) : SHouse), y.2.2.2.1.2.2.1, y.2.2.2.2.1, y.2.2.2.2.2.1, ((⟨y.2.2.2.2.2.2.1.1, y.2.2.2.2.2.2.1.2.1, y.2.2.2.2.2.2.1.2.2.1, y.2.2.2.2.2.2.1.2.2.2.1, y.2.2.2.2.2.2.1.2.2.2.2.1, y.2.2.2.2.2.2.1.2.2.2.2.2.1, y.2.2.2.2.2.2.1.2.2.2.2.2.2.1⟩ : SLot) : SLot)), (y.1.2.2.2.2.2.2.2.2.2.2.1))
def laws_FnCustoms_29_b (n : Nat) {R : Type} (K : Ex → Sm.St T → Option R) (c : List SDeed × Int × Int × Int × Int × Int × SHouse × SHouse × Int × List SLot × List STrader × SLot) (x : Int) (J : Int → Option R) : Option R :=
  laws_FnCustoms_L29 n (K (.exit 8) (stOf (T := T) [3, 4, 5, 6, 7, 8, 11, 12, 14] [24, 40, 56, 3000000, 3000001] [.one (.ptr 24 0 0), .one (.arr 96), .one (.ptr 40 0 0), .one (.int .i64), .one (.ptr 56 0 0), .one (.int .i64), .one (.int .i64), .one (.int .i64), .one (.int .i64)] [.var [.arr 116, .arr 114, .int .i64], .var [.arr 116, .arr 114, .int .i64], .var [.own 3000000 116 false, .own 3000001 114 false, .int .i64], .arr 116 false, .arr 114 false] ((), c.1, (), c.2.1, (), c.2.2.1, c.2.2.2.1, c.2.2.2.2.1, c.2.2.2.2.2.1, ()) ((c.2.2.2.2.2.2.1.Lots, c.2.2.2.2.2.2.1.Traders, c.2.2.2.2.2.2.1.Taken, ()), (c.2.2.2.2.2.2.2.1.Lots, c.2.2.2.2.2.2.2.1.Traders, c.2.2.2.2.2.2.2.1.Taken, ()), ((), (), c.2.2.2.2.2.2.2.2.1, ()), c.2.2.2.2.2.2.2.2.2.1, c.2.2.2.2.2.2.2.2.2.2.1, ()))) (fun (y0 : Bool) => K .ret (stOf (T := T) [2] [] [.one (.bool)] [] (y0, ()) ())) J c.1 c.2.1 c.2.2.1 c.2.2.2.1 c.2.2.2.2.1 c.2.2.2.2.2.1 x c.2.2.2.2.2.2.1 c.2.2.2.2.2.2.2.1 c.2.2.2.2.2.2.2.2.1 c.2.2.2.2.2.2.2.2.2.1 c.2.2.2.2.2.2.2.2.2.2.1 c.2.2.2.2.2.2.2.2.2.2.2
def laws_FnCustoms_29_sp (n : Nat) : LSpec T := mkSpec T ⟨[((.cell 56 0), 3000000, 116), ((.cell 56 1), 3000001, 114)], [3, 4, 5, 6, 7, 8, 11, 12, 14, 15, 16], [24, 40, 56, 3000000, 3000001, 120]⟩ laws_FnCustoms_29_sv laws_FnCustoms_29_so (List SDeed × Int × Int × Int × Int × Int × SHouse × SHouse × Int × List SLot × List STrader × SLot) (Int) laws_FnCustoms_29_emb laws_FnCustoms_29_prj (laws_FnCustoms_29_b n)
noncomputable def laws_FnCustoms_29_c : Code := ((loopCodes laws_FnCustoms_code)[4]?).getD .skip
def laws_FnCustoms_ann : Ann := fun id => bif Nat.beq id 3000006 then some ⟨[], [3, 4, 5], [24, 40]⟩ else bif Nat.beq id 2000006 then some ⟨[], [2], []⟩ else bif Nat.beq id 5000013 then some ⟨[((.cell 56 0), 3000000, 116), ((.cell 56 1), 3000001, 114)], [3, 4, 5, 6, 7, 8, 9], [24, 40, 56, 3000000, 3000001]⟩ else bif Nat.beq id 7000020 then some ⟨[((.cell 56 0), 3000000, 116), ((.cell 56 1), 3000001, 114)], [3, 4, 5, 6, 7, 8, 11, 12], [24, 40, 56, 3000000, 3000001]⟩ else bif Nat.beq id 9000024 then some ⟨[((.cell 56 0), 3000000, 116), ((.cell 56 1), 3000001, 114)], [3, 4, 5, 6, 7, 8, 11, 12], [24, 40, 56, 3000000, 3000001]⟩ else bif Nat.beq id 2000024 then some ⟨[], [2], []⟩ else bif Nat.beq id 11000029 then some ⟨[((.cell 56 0), 3000000, 116), ((.cell 56 1), 3000001, 114)], [3, 4, 5, 6, 7, 8, 11, 12, 14], [24, 40, 56, 3000000, 3000001]⟩ else bif Nat.beq id 2000029 then some ⟨[], [2], []⟩ else none
def laws_FnCustoms_Ls (n : Nat) : Nat → Option (LSpec T) := fun id => bif Nat.beq id 6 then some (laws_FnCustoms_6_sp n) else bif Nat.beq id 13 then some (laws_FnCustoms_13_sp n) else bif Nat.beq id 20 then some (laws_FnCustoms_20_sp n) else bif Nat.beq id 24 then some (laws_FnCustoms_24_sp n) else bif Nat.beq id 29 then some (laws_FnCustoms_29_sp n) else none
theorem laws_FnCustoms_6_le (n : Nat) : LoopEq (T := T) (Phi n 36) (laws_FnCustoms_Ls n) laws_FnCustoms_ann n laws_FnCustoms_6_c (laws_FnCustoms_6_sp n) := ⟨mkSpec_dec (fun y => rfl), fun c x => by kernel_rfl, fun K J c x => by kernel_rfl⟩
theorem laws_FnCustoms_13_le (n : Nat) : LoopEq (T := T) (Phi n 36) (laws_FnCustoms_Ls n) laws_FnCustoms_ann n laws_FnCustoms_13_c (laws_FnCustoms_13_sp n) := ⟨mkSpec_dec (fun y => rfl), fun c x => by kernel_rfl, fun K J c x => by kernel_rfl⟩
theorem laws_FnCustoms_20_le (n : Nat) : LoopEq (T := T) (Phi n 36) (laws_FnCustoms_Ls n) laws_FnCustoms_ann n laws_FnCustoms_20_c (laws_FnCustoms_20_sp n) := ⟨mkSpec_dec (fun y => rfl), fun c x => by kernel_rfl, fun K J c x => by kernel_rfl⟩
theorem laws_FnCustoms_24_le (n : Nat) : LoopEq (T := T) (Phi n 36) (laws_FnCustoms_Ls n) laws_FnCustoms_ann n laws_FnCustoms_24_c (laws_FnCustoms_24_sp n) := ⟨mkSpec_dec (fun y => rfl), fun c x => by kernel_rfl, fun K J c x => by kernel_rfl⟩
theorem laws_FnCustoms_29_le (n : Nat) : LoopEq (T := T) (Phi n 36) (laws_FnCustoms_Ls n) laws_FnCustoms_ann n laws_FnCustoms_29_c (laws_FnCustoms_29_sp n) := ⟨mkSpec_dec (fun y => rfl), fun c x => by kernel_rfl, fun K J c x => by kernel_rfl⟩
theorem laws_FnCustoms_tie (n : Nat) (code0 : List Int) : evF (T := T) (Phi n 36) (laws_FnCustoms_Ls n) laws_FnCustoms_ann n Try.f10 (sg 10) [vA T 70 code0] laws_FnCustoms_dec = laws_FnCustoms n code0 := by kernel_rfl
theorem laws_FnCustoms_lo (n : Nat) : LoopsOk (T := T) (Phi n 36) (laws_FnCustoms_Ls n) laws_FnCustoms_ann n laws_FnCustoms_code := loopsOk_all (cs := [laws_FnCustoms_6_c, laws_FnCustoms_13_c, laws_FnCustoms_20_c, laws_FnCustoms_24_c, laws_FnCustoms_29_c]) (by kernel_rfl) ⟨⟨_, by kernel_rfl, laws_FnCustoms_6_le n⟩, ⟨_, by kernel_rfl, laws_FnCustoms_13_le n⟩, ⟨_, by kernel_rfl, laws_FnCustoms_20_le n⟩, ⟨_, by kernel_rfl, laws_FnCustoms_24_le n⟩, ⟨_, by kernel_rfl, laws_FnCustoms_29_le n⟩, trivial⟩
theorem laws_FnCustoms_ok (n : Nat) : EntOk Try.prog (ents n) (laws_FnCustoms_ent n) := by
  intro hs ar y hg h
  replace h : laws_FnCustoms_D n ar = some y := h
  unfold laws_FnCustoms_D at h
  replace h := ocons_some h
  obtain ⟨a0, r0, rfl, h⟩ := h
  replace h := onil_some h
  obtain ⟨rfl, h⟩ := h
  obtain ⟨code0, qh0, h⟩ := obind_some h
  rw [argV_eq ok qh0]
  exact call_of (phiE_nat _ _) hs ok mixed Try.func10 (c := laws_FnCustoms_code) (by kernel_rfl) (laws_FnCustoms_lo n) (by kernel_rfl) (by kernel_rfl) (by kernel_rfl) laws_FnCustoms_de ((laws_FnCustoms_tie n code0).trans h)
theorem entsOk (n : Nat) : EntsOk Try.prog (ents n) (ents n) := ⟨laws_big_ok n, spec_l1New_ok n, spec_l1Byte_ok n, spec_l1Below_ok n, spec_l1PickInt_ok n, spec_l16DrawDeed_ok n, spec_l16Copy_ok n, spec_l1In_ok n, spec_Duty6_ok n, spec_HouseOk_ok n, spec_l16Bad_ok n, spec_l16Find_ok n, spec_l16With_ok n, spec_l16From_ok n, spec_DoDeed_ok n, spec_l16Draw_ok n, spec_DrawHouse_ok n, impl_own_impl_Lot_ok n, impl_own_impl_Trader_ok n, impl_House_own_ok n, impl_in_ok n, impl_idRight_ok n, impl_lotRight_ok n, impl_Duty6_ok n, impl_Lot_duty_ok n, impl_HouseOk_ok n, impl_House_lot_1_ok n, slices_IndexFunc_impl_Lot_impl_Lot__impl_House_lot_1_ok n, impl_House_lot_ok n, impl_DoDeed_1_ok n, impl_House_put_1_ok n, slices_SortFunc_impl_Lot_impl_Lot__impl_House_put_1_ok n, impl_House_put_ok n, impl_DoDeed_ok n, impl_own_int_ok n, impl_RunDeeds_ok n, laws_FnCustoms_ok n, trivial⟩
theorem sem (n i : Nat) : SemOk (Phi n i) (CallOk Try.prog T) := phiE_ok (entsOk n) i
end Go.Sm.D10
