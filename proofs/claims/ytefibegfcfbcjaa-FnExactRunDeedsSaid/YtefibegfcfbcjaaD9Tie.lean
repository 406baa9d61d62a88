import Derived.Test.YtefibegfcfbcjaaD9Tb
import Derived.Test.YtefibegfcfbcjaaEngE
import Derived.Test.YtefibegfcfbcjaaLay
import Derived.KernelRfl
/- Each function's code computes what the plain function computes. -/
set_option linter.unusedSimpArgs false
set_option linter.deprecated false
set_option linter.unusedSectionVars false
set_option linter.unusedVariables false
set_option maxRecDepth 100000
open Go Go.Proofs
noncomputable section
namespace Go.Sm.D9
/-- By recursors, and of a greater height than all of the functions: the kernel takes these apart first. -/
def obind {α β : Type} (o : Option α) (f : α → Option β) : Option β := let _ := @laws_FnExactRunDeeds; Option.rec (motive := fun _ => Option β) none (fun a => f a) o
theorem obind_some {α β : Type} {o : Option α} {f : α → Option β} {y : β} (h : obind o f = some y) : ∃ a, o = some a ∧ f a = some y := by
  cases o with
  | none => cases h
  | some a => exact ⟨a, rfl, h⟩
def ocons {β : Type} (l : List (A T)) (f : A T → List (A T) → Option β) : Option β := let _ := @laws_FnExactRunDeeds; List.rec (motive := fun _ => Option β) none (fun a r _ => f a r) l
theorem ocons_some {β : Type} {l : List (A T)} {f : A T → List (A T) → Option β} {y : β} (h : ocons l f = some y) : ∃ a r, l = a :: r ∧ f a r = some y := by
  cases l with
  | nil => cases h
  | cons a r => exact ⟨a, r, rfl, h⟩
def onil {β : Type} (l : List (A T)) (x : Option β) : Option β := let _ := @laws_FnExactRunDeeds; List.rec (motive := fun _ => Option β) x (fun _ _ _ => none) l
theorem onil_some {β : Type} {l : List (A T)} {x : Option β} {y : β} (h : onil l x = some y) : l = [] ∧ x = some y := by
  cases l with
  | nil => exact ⟨rfl, h⟩
  | cons a r => cases h
def laws_szLotS_dec (res : Res T) : Option Int := match res.rets, res.outs with
  | [a0], [] => (retV (T := T) 3 a0).bind fun r0 => some (r0)
  | _, _ => none
def laws_szLotS_enc (y : Int) : Res T := ⟨[vR T 3 y], []⟩
theorem laws_szLotS_de (res : Res T) (y : Int) (h : laws_szLotS_dec res = some y) : res = laws_szLotS_enc y := by
  obtain ⟨rets, outs⟩ := res
  unfold laws_szLotS_dec at h
  dsimp only at h
  split at h
  · obtain ⟨r0, h0, h⟩ := Option.bind_eq_some_iff.1 h
    cases h
    rw [retV_eq ok h0]
    rfl
  · cases h
def laws_szTraderS_dec (res : Res T) : Option Int := match res.rets, res.outs with
  | [a0], [] => (retV (T := T) 3 a0).bind fun r0 => some (r0)
  | _, _ => none
def laws_szTraderS_enc (y : Int) : Res T := ⟨[vR T 3 y], []⟩
theorem laws_szTraderS_de (res : Res T) (y : Int) (h : laws_szTraderS_dec res = some y) : res = laws_szTraderS_enc y := by
  obtain ⟨rets, outs⟩ := res
  unfold laws_szTraderS_dec at h
  dsimp only at h
  split at h
  · obtain ⟨r0, h0, h⟩ := Option.bind_eq_some_iff.1 h
    cases h
    rw [retV_eq ok h0]
    rfl
  · cases h
def laws_szHouse_dec (res : Res T) : Option Int := match res.rets, res.outs with
  | [a0], [] => (retV (T := T) 3 a0).bind fun r0 => some (r0)
  | _, _ => none
def laws_szHouse_enc (y : Int) : Res T := ⟨[vR T 3 y], []⟩
theorem laws_szHouse_de (res : Res T) (y : Int) (h : laws_szHouse_dec res = some y) : res = laws_szHouse_enc y := by
  obtain ⟨rets, outs⟩ := res
  unfold laws_szHouse_dec at h
  dsimp only at h
  split at h
  · obtain ⟨r0, h0, h⟩ := Option.bind_eq_some_iff.1 h
    cases h
    rw [retV_eq ok h0]
    rfl
  · cases h
def laws_szDeedS_dec (res : Res T) : Option Int := match res.rets, res.outs with
  | [a0], [] => (retV (T := T) 3 a0).bind fun r0 => some (r0)
  | _, _ => none
def laws_szDeedS_enc (y : Int) : Res T := ⟨[vR T 3 y], []⟩
theorem laws_szDeedS_de (res : Res T) (y : Int) (h : laws_szDeedS_dec res = some y) : res = laws_szDeedS_enc y := by
  obtain ⟨rets, outs⟩ := res
  unfold laws_szDeedS_dec at h
  dsimp only at h
  split at h
  · obtain ⟨r0, h0, h⟩ := Option.bind_eq_some_iff.1 h
    cases h
    rw [retV_eq ok h0]
    rfl
  · cases h
def laws_toLot_dec (res : Res T) : Option SLot := match res.rets, res.outs with
  | [a0], [] => (retV (T := T) 116 a0).bind fun r0 => some (r0)
  | _, _ => none
def laws_toLot_enc (y : SLot) : Res T := ⟨[vR T 116 y], []⟩
theorem laws_toLot_de (res : Res T) (y : SLot) (h : laws_toLot_dec res = some y) : res = laws_toLot_enc y := by
  obtain ⟨rets, outs⟩ := res
  unfold laws_toLot_dec at h
  dsimp only at h
  split at h
  · obtain ⟨r0, h0, h⟩ := Option.bind_eq_some_iff.1 h
    cases h
    rw [retV_eq ok h0]
    rfl
  · cases h
def laws_toLotS_dec (res : Res T) : Option (List SLot) := match res.rets, res.outs with
  | [a0], [] => (retV (T := T) 89 a0).bind fun r0 => some (r0)
  | _, _ => none
def laws_toLotS_enc (y : List SLot) : Res T := ⟨[vR T 89 y], []⟩
theorem laws_toLotS_de (res : Res T) (y : List SLot) (h : laws_toLotS_dec res = some y) : res = laws_toLotS_enc y := by
  obtain ⟨rets, outs⟩ := res
  unfold laws_toLotS_dec at h
  dsimp only at h
  split at h
  · obtain ⟨r0, h0, h⟩ := Option.bind_eq_some_iff.1 h
    cases h
    rw [retV_eq ok h0]
    rfl
  · cases h
def laws_toTrader_dec (res : Res T) : Option STrader := match res.rets, res.outs with
  | [a0], [] => (retV (T := T) 114 a0).bind fun r0 => some (r0)
  | _, _ => none
def laws_toTrader_enc (y : STrader) : Res T := ⟨[vR T 114 y], []⟩
theorem laws_toTrader_de (res : Res T) (y : STrader) (h : laws_toTrader_dec res = some y) : res = laws_toTrader_enc y := by
  obtain ⟨rets, outs⟩ := res
  unfold laws_toTrader_dec at h
  dsimp only at h
  split at h
  · obtain ⟨r0, h0, h⟩ := Option.bind_eq_some_iff.1 h
    cases h
    rw [retV_eq ok h0]
    rfl
  · cases h
def laws_toTraderS_dec (res : Res T) : Option (List STrader) := match res.rets, res.outs with
  | [a0], [] => (retV (T := T) 90 a0).bind fun r0 => some (r0)
  | _, _ => none
def laws_toTraderS_enc (y : List STrader) : Res T := ⟨[vR T 90 y], []⟩
theorem laws_toTraderS_de (res : Res T) (y : List STrader) (h : laws_toTraderS_dec res = some y) : res = laws_toTraderS_enc y := by
  obtain ⟨rets, outs⟩ := res
  unfold laws_toTraderS_dec at h
  dsimp only at h
  split at h
  · obtain ⟨r0, h0, h⟩ := Option.bind_eq_some_iff.1 h
    cases h
    rw [retV_eq ok h0]
    rfl
  · cases h
def laws_toHouse_dec (res : Res T) : Option SHouse := match res.rets, res.outs with
  | [a0], [] => (retV (T := T) 92 a0).bind fun r0 => some (r0)
  | _, _ => none
def laws_toHouse_enc (y : SHouse) : Res T := ⟨[vR T 92 y], []⟩
theorem laws_toHouse_de (res : Res T) (y : SHouse) (h : laws_toHouse_dec res = some y) : res = laws_toHouse_enc y := by
  obtain ⟨rets, outs⟩ := res
  unfold laws_toHouse_dec at h
  dsimp only at h
  split at h
  · obtain ⟨r0, h0, h⟩ := Option.bind_eq_some_iff.1 h
    cases h
    rw [retV_eq ok h0]
    rfl
  · cases h
def laws_toDeed_dec (res : Res T) : Option SDeed := match res.rets, res.outs with
  | [a0], [] => (retV (T := T) 96 a0).bind fun r0 => some (r0)
  | _, _ => none
def laws_toDeed_enc (y : SDeed) : Res T := ⟨[vR T 96 y], []⟩
theorem laws_toDeed_de (res : Res T) (y : SDeed) (h : laws_toDeed_dec res = some y) : res = laws_toDeed_enc y := by
  obtain ⟨rets, outs⟩ := res
  unfold laws_toDeed_dec at h
  dsimp only at h
  split at h
  · obtain ⟨r0, h0, h⟩ := Option.bind_eq_some_iff.1 h
    cases h
    rw [retV_eq ok h0]
    rfl
  · cases h
def laws_toDeedS_dec (res : Res T) : Option (List SDeed) := match res.rets, res.outs with
  | [a0], [] => (retV (T := T) 105 a0).bind fun r0 => some (r0)
  | _, _ => none
def laws_toDeedS_enc (y : List SDeed) : Res T := ⟨[vR T 105 y], []⟩
theorem laws_toDeedS_de (res : Res T) (y : List SDeed) (h : laws_toDeedS_dec res = some y) : res = laws_toDeedS_enc y := by
  obtain ⟨rets, outs⟩ := res
  unfold laws_toDeedS_dec at h
  dsimp only at h
  split at h
  · obtain ⟨r0, h0, h⟩ := Option.bind_eq_some_iff.1 h
    cases h
    rw [retV_eq ok h0]
    rfl
  · cases h
def spec_l16Copy_dec (res : Res T) : Option SHouse := match res.rets, res.outs with
  | [a0], [] => (retV (T := T) 92 a0).bind fun r0 => some (r0)
  | _, _ => none
def spec_l16Copy_enc (y : SHouse) : Res T := ⟨[vR T 92 y], []⟩
theorem spec_l16Copy_de (res : Res T) (y : SHouse) (h : spec_l16Copy_dec res = some y) : res = spec_l16Copy_enc y := by
  obtain ⟨rets, outs⟩ := res
  unfold spec_l16Copy_dec at h
  dsimp only at h
  split at h
  · obtain ⟨r0, h0, h⟩ := Option.bind_eq_some_iff.1 h
    cases h
    rw [retV_eq ok h0]
    rfl
  · cases h
def spec_l1In_dec (res : Res T) : Option Bool := match res.rets, res.outs with
  | [a0], [] => (retV (T := T) 4 a0).bind fun r0 => some (r0)
  | _, _ => none
def spec_l1In_enc (y : Bool) : Res T := ⟨[vR T 4 y], []⟩
theorem spec_l1In_de (res : Res T) (y : Bool) (h : spec_l1In_dec res = some y) : res = spec_l1In_enc y := by
  obtain ⟨rets, outs⟩ := res
  unfold spec_l1In_dec at h
  dsimp only at h
  split at h
  · obtain ⟨r0, h0, h⟩ := Option.bind_eq_some_iff.1 h
    cases h
    rw [retV_eq ok h0]
    rfl
  · cases h
def spec_Duty6_dec (res : Res T) : Option (Int × Bool) := match res.rets, res.outs with
  | [a0, a1], [] => (retV (T := T) 3 a0).bind fun r0 => (retV (T := T) 4 a1).bind fun r1 => some (r0, r1)
  | _, _ => none
def spec_Duty6_enc (y : Int × Bool) : Res T := ⟨[vR T 3 y.1, vR T 4 y.2], []⟩
theorem spec_Duty6_de (res : Res T) (y : Int × Bool) (h : spec_Duty6_dec res = some y) : res = spec_Duty6_enc y := by
  obtain ⟨rets, outs⟩ := res
  unfold spec_Duty6_dec at h
  dsimp only at h
  split at h
  · obtain ⟨r0, h0, h⟩ := Option.bind_eq_some_iff.1 h
    obtain ⟨r1, h1, h⟩ := Option.bind_eq_some_iff.1 h
    cases h
    rw [retV_eq ok h0, retV_eq ok h1]
    rfl
  · cases h
def spec_HouseOk_dec (res : Res T) : Option Bool := match res.rets, res.outs with
  | [a0], [] => (retV (T := T) 4 a0).bind fun r0 => some (r0)
  | _, _ => none
def spec_HouseOk_enc (y : Bool) : Res T := ⟨[vR T 4 y], []⟩
theorem spec_HouseOk_de (res : Res T) (y : Bool) (h : spec_HouseOk_dec res = some y) : res = spec_HouseOk_enc y := by
  obtain ⟨rets, outs⟩ := res
  unfold spec_HouseOk_dec at h
  dsimp only at h
  split at h
  · obtain ⟨r0, h0, h⟩ := Option.bind_eq_some_iff.1 h
    cases h
    rw [retV_eq ok h0]
    rfl
  · cases h
def spec_l16Bad_dec (res : Res T) : Option Bool := match res.rets, res.outs with
  | [a0], [] => (retV (T := T) 4 a0).bind fun r0 => some (r0)
  | _, _ => none
def spec_l16Bad_enc (y : Bool) : Res T := ⟨[vR T 4 y], []⟩
theorem spec_l16Bad_de (res : Res T) (y : Bool) (h : spec_l16Bad_dec res = some y) : res = spec_l16Bad_enc y := by
  obtain ⟨rets, outs⟩ := res
  unfold spec_l16Bad_dec at h
  dsimp only at h
  split at h
  · obtain ⟨r0, h0, h⟩ := Option.bind_eq_some_iff.1 h
    cases h
    rw [retV_eq ok h0]
    rfl
  · cases h
def spec_l16Find_dec (res : Res T) : Option Int := match res.rets, res.outs with
  | [a0], [] => (retV (T := T) 3 a0).bind fun r0 => some (r0)
  | _, _ => none
def spec_l16Find_enc (y : Int) : Res T := ⟨[vR T 3 y], []⟩
theorem spec_l16Find_de (res : Res T) (y : Int) (h : spec_l16Find_dec res = some y) : res = spec_l16Find_enc y := by
  obtain ⟨rets, outs⟩ := res
  unfold spec_l16Find_dec at h
  dsimp only at h
  split at h
  · obtain ⟨r0, h0, h⟩ := Option.bind_eq_some_iff.1 h
    cases h
    rw [retV_eq ok h0]
    rfl
  · cases h
def spec_l16With_dec (res : Res T) : Option SHouse := match res.rets, res.outs with
  | [a0], [] => (retV (T := T) 92 a0).bind fun r0 => some (r0)
  | _, _ => none
def spec_l16With_enc (y : SHouse) : Res T := ⟨[vR T 92 y], []⟩
theorem spec_l16With_de (res : Res T) (y : SHouse) (h : spec_l16With_dec res = some y) : res = spec_l16With_enc y := by
  obtain ⟨rets, outs⟩ := res
  unfold spec_l16With_dec at h
  dsimp only at h
  split at h
  · obtain ⟨r0, h0, h⟩ := Option.bind_eq_some_iff.1 h
    cases h
    rw [retV_eq ok h0]
    rfl
  · cases h
def spec_l16From_dec (res : Res T) : Option Int := match res.rets, res.outs with
  | [a0], [] => (retV (T := T) 3 a0).bind fun r0 => some (r0)
  | _, _ => none
def spec_l16From_enc (y : Int) : Res T := ⟨[vR T 3 y], []⟩
theorem spec_l16From_de (res : Res T) (y : Int) (h : spec_l16From_dec res = some y) : res = spec_l16From_enc y := by
  obtain ⟨rets, outs⟩ := res
  unfold spec_l16From_dec at h
  dsimp only at h
  split at h
  · obtain ⟨r0, h0, h⟩ := Option.bind_eq_some_iff.1 h
    cases h
    rw [retV_eq ok h0]
    rfl
  · cases h
def spec_DoDeed_dec (res : Res T) : Option (SHouse × Int) := match res.rets, res.outs with
  | [a0, a1], [] => (retV (T := T) 92 a0).bind fun r0 => (retV (T := T) 3 a1).bind fun r1 => some (r0, r1)
  | _, _ => none
def spec_DoDeed_enc (y : SHouse × Int) : Res T := ⟨[vR T 92 y.1, vR T 3 y.2], []⟩
theorem spec_DoDeed_de (res : Res T) (y : SHouse × Int) (h : spec_DoDeed_dec res = some y) : res = spec_DoDeed_enc y := by
  obtain ⟨rets, outs⟩ := res
  unfold spec_DoDeed_dec at h
  dsimp only at h
  split at h
  · obtain ⟨r0, h0, h⟩ := Option.bind_eq_some_iff.1 h
    obtain ⟨r1, h1, h⟩ := Option.bind_eq_some_iff.1 h
    cases h
    rw [retV_eq ok h0, retV_eq ok h1]
    rfl
  · cases h
def spec_RunDeeds_dec (res : Res T) : Option (SHouse × List Int) := match res.rets, res.outs with
  | [a0, a1], [] => (retV (T := T) 92 a0).bind fun r0 => (retV (T := T) 23 a1).bind fun r1 => some (r0, r1)
  | _, _ => none
def spec_RunDeeds_enc (y : SHouse × List Int) : Res T := ⟨[vR T 92 y.1, vR T 23 y.2], []⟩
theorem spec_RunDeeds_de (res : Res T) (y : SHouse × List Int) (h : spec_RunDeeds_dec res = some y) : res = spec_RunDeeds_enc y := by
  obtain ⟨rets, outs⟩ := res
  unfold spec_RunDeeds_dec at h
  dsimp only at h
  split at h
  · obtain ⟨r0, h0, h⟩ := Option.bind_eq_some_iff.1 h
    obtain ⟨r1, h1, h⟩ := Option.bind_eq_some_iff.1 h
    cases h
    rw [retV_eq ok h0, retV_eq ok h1]
    rfl
  · cases h
def impl_own_impl_Lot_dec (res : Res T) : Option (List SLot) := match res.rets, res.outs with
  | [a0], [] => (retV (T := T) 89 a0).bind fun r0 => some (r0)
  | _, _ => none
def impl_own_impl_Lot_enc (y : List SLot) : Res T := ⟨[vR T 89 y], []⟩
theorem impl_own_impl_Lot_de (res : Res T) (y : List SLot) (h : impl_own_impl_Lot_dec res = some y) : res = impl_own_impl_Lot_enc y := by
  obtain ⟨rets, outs⟩ := res
  unfold impl_own_impl_Lot_dec at h
  dsimp only at h
  split at h
  · obtain ⟨r0, h0, h⟩ := Option.bind_eq_some_iff.1 h
    cases h
    rw [retV_eq ok h0]
    rfl
  · cases h
def impl_own_impl_Trader_dec (res : Res T) : Option (List STrader) := match res.rets, res.outs with
  | [a0], [] => (retV (T := T) 90 a0).bind fun r0 => some (r0)
  | _, _ => none
def impl_own_impl_Trader_enc (y : List STrader) : Res T := ⟨[vR T 90 y], []⟩
theorem impl_own_impl_Trader_de (res : Res T) (y : List STrader) (h : impl_own_impl_Trader_dec res = some y) : res = impl_own_impl_Trader_enc y := by
  obtain ⟨rets, outs⟩ := res
  unfold impl_own_impl_Trader_dec at h
  dsimp only at h
  split at h
  · obtain ⟨r0, h0, h⟩ := Option.bind_eq_some_iff.1 h
    cases h
    rw [retV_eq ok h0]
    rfl
  · cases h
def impl_House_own_dec (res : Res T) : Option SHouse := match res.rets, res.outs with
  | [a0], [] => (retV (T := T) 92 a0).bind fun r0 => some (r0)
  | _, _ => none
def impl_House_own_enc (y : SHouse) : Res T := ⟨[vR T 92 y], []⟩
theorem impl_House_own_de (res : Res T) (y : SHouse) (h : impl_House_own_dec res = some y) : res = impl_House_own_enc y := by
  obtain ⟨rets, outs⟩ := res
  unfold impl_House_own_dec at h
  dsimp only at h
  split at h
  · obtain ⟨r0, h0, h⟩ := Option.bind_eq_some_iff.1 h
    cases h
    rw [retV_eq ok h0]
    rfl
  · cases h
def impl_in_dec (res : Res T) : Option Bool := match res.rets, res.outs with
  | [a0], [] => (retV (T := T) 4 a0).bind fun r0 => some (r0)
  | _, _ => none
def impl_in_enc (y : Bool) : Res T := ⟨[vR T 4 y], []⟩
theorem impl_in_de (res : Res T) (y : Bool) (h : impl_in_dec res = some y) : res = impl_in_enc y := by
  obtain ⟨rets, outs⟩ := res
  unfold impl_in_dec at h
  dsimp only at h
  split at h
  · obtain ⟨r0, h0, h⟩ := Option.bind_eq_some_iff.1 h
    cases h
    rw [retV_eq ok h0]
    rfl
  · cases h
def impl_idRight_dec (res : Res T) : Option Bool := match res.rets, res.outs with
  | [a0], [] => (retV (T := T) 4 a0).bind fun r0 => some (r0)
  | _, _ => none
def impl_idRight_enc (y : Bool) : Res T := ⟨[vR T 4 y], []⟩
theorem impl_idRight_de (res : Res T) (y : Bool) (h : impl_idRight_dec res = some y) : res = impl_idRight_enc y := by
  obtain ⟨rets, outs⟩ := res
  unfold impl_idRight_dec at h
  dsimp only at h
  split at h
  · obtain ⟨r0, h0, h⟩ := Option.bind_eq_some_iff.1 h
    cases h
    rw [retV_eq ok h0]
    rfl
  · cases h
def impl_lotRight_dec (res : Res T) : Option Bool := match res.rets, res.outs with
  | [a0], [] => (retV (T := T) 4 a0).bind fun r0 => some (r0)
  | _, _ => none
def impl_lotRight_enc (y : Bool) : Res T := ⟨[vR T 4 y], []⟩
theorem impl_lotRight_de (res : Res T) (y : Bool) (h : impl_lotRight_dec res = some y) : res = impl_lotRight_enc y := by
  obtain ⟨rets, outs⟩ := res
  unfold impl_lotRight_dec at h
  dsimp only at h
  split at h
  · obtain ⟨r0, h0, h⟩ := Option.bind_eq_some_iff.1 h
    cases h
    rw [retV_eq ok h0]
    rfl
  · cases h
def impl_Duty6_dec (res : Res T) : Option (Int × Bool) := match res.rets, res.outs with
  | [a0, a1], [] => (retV (T := T) 3 a0).bind fun r0 => (retV (T := T) 4 a1).bind fun r1 => some (r0, r1)
  | _, _ => none
def impl_Duty6_enc (y : Int × Bool) : Res T := ⟨[vR T 3 y.1, vR T 4 y.2], []⟩
theorem impl_Duty6_de (res : Res T) (y : Int × Bool) (h : impl_Duty6_dec res = some y) : res = impl_Duty6_enc y := by
  obtain ⟨rets, outs⟩ := res
  unfold impl_Duty6_dec at h
  dsimp only at h
  split at h
  · obtain ⟨r0, h0, h⟩ := Option.bind_eq_some_iff.1 h
    obtain ⟨r1, h1, h⟩ := Option.bind_eq_some_iff.1 h
    cases h
    rw [retV_eq ok h0, retV_eq ok h1]
    rfl
  · cases h
def impl_Lot_duty_dec (res : Res T) : Option Int := match res.rets, res.outs with
  | [a0], [] => (retV (T := T) 3 a0).bind fun r0 => some (r0)
  | _, _ => none
def impl_Lot_duty_enc (y : Int) : Res T := ⟨[vR T 3 y], []⟩
theorem impl_Lot_duty_de (res : Res T) (y : Int) (h : impl_Lot_duty_dec res = some y) : res = impl_Lot_duty_enc y := by
  obtain ⟨rets, outs⟩ := res
  unfold impl_Lot_duty_dec at h
  dsimp only at h
  split at h
  · obtain ⟨r0, h0, h⟩ := Option.bind_eq_some_iff.1 h
    cases h
    rw [retV_eq ok h0]
    rfl
  · cases h
def impl_HouseOk_dec (res : Res T) : Option Bool := match res.rets, res.outs with
  | [a0], [] => (retV (T := T) 4 a0).bind fun r0 => some (r0)
  | _, _ => none
def impl_HouseOk_enc (y : Bool) : Res T := ⟨[vR T 4 y], []⟩
theorem impl_HouseOk_de (res : Res T) (y : Bool) (h : impl_HouseOk_dec res = some y) : res = impl_HouseOk_enc y := by
  obtain ⟨rets, outs⟩ := res
  unfold impl_HouseOk_dec at h
  dsimp only at h
  split at h
  · obtain ⟨r0, h0, h⟩ := Option.bind_eq_some_iff.1 h
    cases h
    rw [retV_eq ok h0]
    rfl
  · cases h
def impl_House_lot_1_dec (res : Res T) : Option Bool := match res.rets, res.outs with
  | [a0], [] => (retV (T := T) 4 a0).bind fun r0 => some (r0)
  | _, _ => none
def impl_House_lot_1_enc (y : Bool) : Res T := ⟨[vR T 4 y], []⟩
theorem impl_House_lot_1_de (res : Res T) (y : Bool) (h : impl_House_lot_1_dec res = some y) : res = impl_House_lot_1_enc y := by
  obtain ⟨rets, outs⟩ := res
  unfold impl_House_lot_1_dec at h
  dsimp only at h
  split at h
  · obtain ⟨r0, h0, h⟩ := Option.bind_eq_some_iff.1 h
    cases h
    rw [retV_eq ok h0]
    rfl
  · cases h
def slices_IndexFunc_impl_Lot_impl_Lot__impl_House_lot_1_dec (res : Res T) : Option Int := match res.rets, res.outs with
  | [a0], [] => (retV (T := T) 3 a0).bind fun r0 => some (r0)
  | _, _ => none
def slices_IndexFunc_impl_Lot_impl_Lot__impl_House_lot_1_enc (y : Int) : Res T := ⟨[vR T 3 y], []⟩
theorem slices_IndexFunc_impl_Lot_impl_Lot__impl_House_lot_1_de (res : Res T) (y : Int) (h : slices_IndexFunc_impl_Lot_impl_Lot__impl_House_lot_1_dec res = some y) : res = slices_IndexFunc_impl_Lot_impl_Lot__impl_House_lot_1_enc y := by
  obtain ⟨rets, outs⟩ := res
  unfold slices_IndexFunc_impl_Lot_impl_Lot__impl_House_lot_1_dec at h
  dsimp only at h
  split at h
  · obtain ⟨r0, h0, h⟩ := Option.bind_eq_some_iff.1 h
    cases h
    rw [retV_eq ok h0]
    rfl
  · cases h
def impl_House_lot_dec (res : Res T) : Option Int := match res.rets, res.outs with
  | [a0], [] => (retV (T := T) 3 a0).bind fun r0 => some (r0)
  | _, _ => none
def impl_House_lot_enc (y : Int) : Res T := ⟨[vR T 3 y], []⟩
theorem impl_House_lot_de (res : Res T) (y : Int) (h : impl_House_lot_dec res = some y) : res = impl_House_lot_enc y := by
  obtain ⟨rets, outs⟩ := res
  unfold impl_House_lot_dec at h
  dsimp only at h
  split at h
  · obtain ⟨r0, h0, h⟩ := Option.bind_eq_some_iff.1 h
    cases h
    rw [retV_eq ok h0]
    rfl
  · cases h
def impl_DoDeed_1_dec (res : Res T) : Option Bool := match res.rets, res.outs with
  | [a0], [] => (retV (T := T) 4 a0).bind fun r0 => some (r0)
  | _, _ => none
def impl_DoDeed_1_enc (y : Bool) : Res T := ⟨[vR T 4 y], []⟩
theorem impl_DoDeed_1_de (res : Res T) (y : Bool) (h : impl_DoDeed_1_dec res = some y) : res = impl_DoDeed_1_enc y := by
  obtain ⟨rets, outs⟩ := res
  unfold impl_DoDeed_1_dec at h
  dsimp only at h
  split at h
  · obtain ⟨r0, h0, h⟩ := Option.bind_eq_some_iff.1 h
    cases h
    rw [retV_eq ok h0]
    rfl
  · cases h
def impl_House_put_1_dec (res : Res T) : Option Int := match res.rets, res.outs with
  | [a0], [] => (retV (T := T) 3 a0).bind fun r0 => some (r0)
  | _, _ => none
def impl_House_put_1_enc (y : Int) : Res T := ⟨[vR T 3 y], []⟩
theorem impl_House_put_1_de (res : Res T) (y : Int) (h : impl_House_put_1_dec res = some y) : res = impl_House_put_1_enc y := by
  obtain ⟨rets, outs⟩ := res
  unfold impl_House_put_1_dec at h
  dsimp only at h
  split at h
  · obtain ⟨r0, h0, h⟩ := Option.bind_eq_some_iff.1 h
    cases h
    rw [retV_eq ok h0]
    rfl
  · cases h
def slices_SortFunc_impl_Lot_impl_Lot__impl_House_put_1_dec (res : Res T) : Option (List SLot) := match res.rets, res.outs with
  | [], [b0] => (outS (T := T) 116 b0).bind fun r0 => some (r0)
  | _, _ => none
def slices_SortFunc_impl_Lot_impl_Lot__impl_House_put_1_enc (y : List SLot) : Res T := ⟨[], [.sl 116 y]⟩
theorem slices_SortFunc_impl_Lot_impl_Lot__impl_House_put_1_de (res : Res T) (y : List SLot) (h : slices_SortFunc_impl_Lot_impl_Lot__impl_House_put_1_dec res = some y) : res = slices_SortFunc_impl_Lot_impl_Lot__impl_House_put_1_enc y := by
  obtain ⟨rets, outs⟩ := res
  unfold slices_SortFunc_impl_Lot_impl_Lot__impl_House_put_1_dec at h
  dsimp only at h
  split at h
  · obtain ⟨r0, h0, h⟩ := Option.bind_eq_some_iff.1 h
    cases h
    rw [outS_eq h0]
    rfl
  · cases h
def impl_House_put_dec (res : Res T) : Option SHouse := match res.rets, res.outs with
  | [], [b0] => (outV (T := T) 92 b0).bind fun r0 => some (r0)
  | _, _ => none
def impl_House_put_enc (y : SHouse) : Res T := ⟨[], [.var 92 y]⟩
theorem impl_House_put_de (res : Res T) (y : SHouse) (h : impl_House_put_dec res = some y) : res = impl_House_put_enc y := by
  obtain ⟨rets, outs⟩ := res
  unfold impl_House_put_dec at h
  dsimp only at h
  split at h
  · obtain ⟨r0, h0, h⟩ := Option.bind_eq_some_iff.1 h
    cases h
    rw [outV_eq h0]
    rfl
  · cases h
def impl_DoDeed_dec (res : Res T) : Option (SHouse × Int) := match res.rets, res.outs with
  | [a0, a1], [] => (retV (T := T) 92 a0).bind fun r0 => (retV (T := T) 3 a1).bind fun r1 => some (r0, r1)
  | _, _ => none
def impl_DoDeed_enc (y : SHouse × Int) : Res T := ⟨[vR T 92 y.1, vR T 3 y.2], []⟩
theorem impl_DoDeed_de (res : Res T) (y : SHouse × Int) (h : impl_DoDeed_dec res = some y) : res = impl_DoDeed_enc y := by
  obtain ⟨rets, outs⟩ := res
  unfold impl_DoDeed_dec at h
  dsimp only at h
  split at h
  · obtain ⟨r0, h0, h⟩ := Option.bind_eq_some_iff.1 h
    obtain ⟨r1, h1, h⟩ := Option.bind_eq_some_iff.1 h
    cases h
    rw [retV_eq ok h0, retV_eq ok h1]
    rfl
  · cases h
def impl_own_int_dec (res : Res T) : Option (List Int) := match res.rets, res.outs with
  | [a0], [] => (retV (T := T) 23 a0).bind fun r0 => some (r0)
  | _, _ => none
def impl_own_int_enc (y : List Int) : Res T := ⟨[vR T 23 y], []⟩
theorem impl_own_int_de (res : Res T) (y : List Int) (h : impl_own_int_dec res = some y) : res = impl_own_int_enc y := by
  obtain ⟨rets, outs⟩ := res
  unfold impl_own_int_dec at h
  dsimp only at h
  split at h
  · obtain ⟨r0, h0, h⟩ := Option.bind_eq_some_iff.1 h
    cases h
    rw [retV_eq ok h0]
    rfl
  · cases h
def impl_RunDeeds_dec (res : Res T) : Option (SHouse × List Int) := match res.rets, res.outs with
  | [a0, a1], [] => (retV (T := T) 92 a0).bind fun r0 => (retV (T := T) 23 a1).bind fun r1 => some (r0, r1)
  | _, _ => none
def impl_RunDeeds_enc (y : SHouse × List Int) : Res T := ⟨[vR T 92 y.1, vR T 23 y.2], []⟩
theorem impl_RunDeeds_de (res : Res T) (y : SHouse × List Int) (h : impl_RunDeeds_dec res = some y) : res = impl_RunDeeds_enc y := by
  obtain ⟨rets, outs⟩ := res
  unfold impl_RunDeeds_dec at h
  dsimp only at h
  split at h
  · obtain ⟨r0, h0, h⟩ := Option.bind_eq_some_iff.1 h
    obtain ⟨r1, h1, h⟩ := Option.bind_eq_some_iff.1 h
    cases h
    rw [retV_eq ok h0, retV_eq ok h1]
    rfl
  · cases h
def laws_eqLot_dec (res : Res T) : Option Bool := match res.rets, res.outs with
  | [a0], [] => (retV (T := T) 4 a0).bind fun r0 => some (r0)
  | _, _ => none
def laws_eqLot_enc (y : Bool) : Res T := ⟨[vR T 4 y], []⟩
theorem laws_eqLot_de (res : Res T) (y : Bool) (h : laws_eqLot_dec res = some y) : res = laws_eqLot_enc y := by
  obtain ⟨rets, outs⟩ := res
  unfold laws_eqLot_dec at h
  dsimp only at h
  split at h
  · obtain ⟨r0, h0, h⟩ := Option.bind_eq_some_iff.1 h
    cases h
    rw [retV_eq ok h0]
    rfl
  · cases h
def laws_eqLotS_dec (res : Res T) : Option Bool := match res.rets, res.outs with
  | [a0], [] => (retV (T := T) 4 a0).bind fun r0 => some (r0)
  | _, _ => none
def laws_eqLotS_enc (y : Bool) : Res T := ⟨[vR T 4 y], []⟩
theorem laws_eqLotS_de (res : Res T) (y : Bool) (h : laws_eqLotS_dec res = some y) : res = laws_eqLotS_enc y := by
  obtain ⟨rets, outs⟩ := res
  unfold laws_eqLotS_dec at h
  dsimp only at h
  split at h
  · obtain ⟨r0, h0, h⟩ := Option.bind_eq_some_iff.1 h
    cases h
    rw [retV_eq ok h0]
    rfl
  · cases h
def laws_eqTrader_dec (res : Res T) : Option Bool := match res.rets, res.outs with
  | [a0], [] => (retV (T := T) 4 a0).bind fun r0 => some (r0)
  | _, _ => none
def laws_eqTrader_enc (y : Bool) : Res T := ⟨[vR T 4 y], []⟩
theorem laws_eqTrader_de (res : Res T) (y : Bool) (h : laws_eqTrader_dec res = some y) : res = laws_eqTrader_enc y := by
  obtain ⟨rets, outs⟩ := res
  unfold laws_eqTrader_dec at h
  dsimp only at h
  split at h
  · obtain ⟨r0, h0, h⟩ := Option.bind_eq_some_iff.1 h
    cases h
    rw [retV_eq ok h0]
    rfl
  · cases h
def laws_eqTraderS_dec (res : Res T) : Option Bool := match res.rets, res.outs with
  | [a0], [] => (retV (T := T) 4 a0).bind fun r0 => some (r0)
  | _, _ => none
def laws_eqTraderS_enc (y : Bool) : Res T := ⟨[vR T 4 y], []⟩
theorem laws_eqTraderS_de (res : Res T) (y : Bool) (h : laws_eqTraderS_dec res = some y) : res = laws_eqTraderS_enc y := by
  obtain ⟨rets, outs⟩ := res
  unfold laws_eqTraderS_dec at h
  dsimp only at h
  split at h
  · obtain ⟨r0, h0, h⟩ := Option.bind_eq_some_iff.1 h
    cases h
    rw [retV_eq ok h0]
    rfl
  · cases h
def laws_eqHouse_dec (res : Res T) : Option Bool := match res.rets, res.outs with
  | [a0], [] => (retV (T := T) 4 a0).bind fun r0 => some (r0)
  | _, _ => none
def laws_eqHouse_enc (y : Bool) : Res T := ⟨[vR T 4 y], []⟩
theorem laws_eqHouse_de (res : Res T) (y : Bool) (h : laws_eqHouse_dec res = some y) : res = laws_eqHouse_enc y := by
  obtain ⟨rets, outs⟩ := res
  unfold laws_eqHouse_dec at h
  dsimp only at h
  split at h
  · obtain ⟨r0, h0, h⟩ := Option.bind_eq_some_iff.1 h
    cases h
    rw [retV_eq ok h0]
    rfl
  · cases h
def laws_eqIntS_dec (res : Res T) : Option Bool := match res.rets, res.outs with
  | [a0], [] => (retV (T := T) 4 a0).bind fun r0 => some (r0)
  | _, _ => none
def laws_eqIntS_enc (y : Bool) : Res T := ⟨[vR T 4 y], []⟩
theorem laws_eqIntS_de (res : Res T) (y : Bool) (h : laws_eqIntS_dec res = some y) : res = laws_eqIntS_enc y := by
  obtain ⟨rets, outs⟩ := res
  unfold laws_eqIntS_dec at h
  dsimp only at h
  split at h
  · obtain ⟨r0, h0, h⟩ := Option.bind_eq_some_iff.1 h
    cases h
    rw [retV_eq ok h0]
    rfl
  · cases h
def laws_eqDeed_dec (res : Res T) : Option Bool := match res.rets, res.outs with
  | [a0], [] => (retV (T := T) 4 a0).bind fun r0 => some (r0)
  | _, _ => none
def laws_eqDeed_enc (y : Bool) : Res T := ⟨[vR T 4 y], []⟩
theorem laws_eqDeed_de (res : Res T) (y : Bool) (h : laws_eqDeed_dec res = some y) : res = laws_eqDeed_enc y := by
  obtain ⟨rets, outs⟩ := res
  unfold laws_eqDeed_dec at h
  dsimp only at h
  split at h
  · obtain ⟨r0, h0, h⟩ := Option.bind_eq_some_iff.1 h
    cases h
    rw [retV_eq ok h0]
    rfl
  · cases h
def laws_eqDeedS_dec (res : Res T) : Option Bool := match res.rets, res.outs with
  | [a0], [] => (retV (T := T) 4 a0).bind fun r0 => some (r0)
  | _, _ => none
def laws_eqDeedS_enc (y : Bool) : Res T := ⟨[vR T 4 y], []⟩
theorem laws_eqDeedS_de (res : Res T) (y : Bool) (h : laws_eqDeedS_dec res = some y) : res = laws_eqDeedS_enc y := by
  obtain ⟨rets, outs⟩ := res
  unfold laws_eqDeedS_dec at h
  dsimp only at h
  split at h
  · obtain ⟨r0, h0, h⟩ := Option.bind_eq_some_iff.1 h
    cases h
    rw [retV_eq ok h0]
    rfl
  · cases h
def laws_markLotS_dec (res : Res T) : Option (Int × List SLot) := match res.rets, res.outs with
  | [a0], [b0] => (retV (T := T) 3 a0).bind fun r0 => (outS (T := T) 116 b0).bind fun r1 => some (r0, r1)
  | _, _ => none
def laws_markLotS_enc (y : Int × List SLot) : Res T := ⟨[vR T 3 y.1], [.sl 116 y.2]⟩
theorem laws_markLotS_de (res : Res T) (y : Int × List SLot) (h : laws_markLotS_dec res = some y) : res = laws_markLotS_enc y := by
  obtain ⟨rets, outs⟩ := res
  unfold laws_markLotS_dec at h
  dsimp only at h
  split at h
  · obtain ⟨r0, h0, h⟩ := Option.bind_eq_some_iff.1 h
    obtain ⟨r1, h1, h⟩ := Option.bind_eq_some_iff.1 h
    cases h
    rw [retV_eq ok h0, outS_eq h1]
    rfl
  · cases h
def laws_markTraderS_dec (res : Res T) : Option (Int × List STrader) := match res.rets, res.outs with
  | [a0], [b0] => (retV (T := T) 3 a0).bind fun r0 => (outS (T := T) 114 b0).bind fun r1 => some (r0, r1)
  | _, _ => none
def laws_markTraderS_enc (y : Int × List STrader) : Res T := ⟨[vR T 3 y.1], [.sl 114 y.2]⟩
theorem laws_markTraderS_de (res : Res T) (y : Int × List STrader) (h : laws_markTraderS_dec res = some y) : res = laws_markTraderS_enc y := by
  obtain ⟨rets, outs⟩ := res
  unfold laws_markTraderS_dec at h
  dsimp only at h
  split at h
  · obtain ⟨r0, h0, h⟩ := Option.bind_eq_some_iff.1 h
    obtain ⟨r1, h1, h⟩ := Option.bind_eq_some_iff.1 h
    cases h
    rw [retV_eq ok h0, outS_eq h1]
    rfl
  · cases h
def laws_markHouse_dec (res : Res T) : Option (Int × List SLot × List STrader) := match res.rets, res.outs with
  | [a0], [b0, b1] => (retV (T := T) 3 a0).bind fun r0 => (outS (T := T) 116 b0).bind fun r1 => (outS (T := T) 114 b1).bind fun r2 => some (r0, r1, r2)
  | _, _ => none
def laws_markHouse_enc (y : Int × List SLot × List STrader) : Res T := ⟨[vR T 3 y.1], [.sl 116 y.2.1, .sl 114 y.2.2]⟩
theorem laws_markHouse_de (res : Res T) (y : Int × List SLot × List STrader) (h : laws_markHouse_dec res = some y) : res = laws_markHouse_enc y := by
  obtain ⟨rets, outs⟩ := res
  unfold laws_markHouse_dec at h
  dsimp only at h
  split at h
  · obtain ⟨r0, h0, h⟩ := Option.bind_eq_some_iff.1 h
    obtain ⟨r1, h1, h⟩ := Option.bind_eq_some_iff.1 h
    obtain ⟨r2, h2, h⟩ := Option.bind_eq_some_iff.1 h
    cases h
    rw [retV_eq ok h0, outS_eq h1, outS_eq h2]
    rfl
  · cases h
def laws_markDeedS_dec (res : Res T) : Option (Int × List SDeed) := match res.rets, res.outs with
  | [a0], [b0] => (retV (T := T) 3 a0).bind fun r0 => (outS (T := T) 96 b0).bind fun r1 => some (r0, r1)
  | _, _ => none
def laws_markDeedS_enc (y : Int × List SDeed) : Res T := ⟨[vR T 3 y.1], [.sl 96 y.2]⟩
theorem laws_markDeedS_de (res : Res T) (y : Int × List SDeed) (h : laws_markDeedS_dec res = some y) : res = laws_markDeedS_enc y := by
  obtain ⟨rets, outs⟩ := res
  unfold laws_markDeedS_dec at h
  dsimp only at h
  split at h
  · obtain ⟨r0, h0, h⟩ := Option.bind_eq_some_iff.1 h
    obtain ⟨r1, h1, h⟩ := Option.bind_eq_some_iff.1 h
    cases h
    rw [retV_eq ok h0, outS_eq h1]
    rfl
  · cases h
def laws_markIntS_dec (res : Res T) : Option (Int × List Int) := match res.rets, res.outs with
  | [a0], [b0] => (retV (T := T) 3 a0).bind fun r0 => (outS (T := T) 3 b0).bind fun r1 => some (r0, r1)
  | _, _ => none
def laws_markIntS_enc (y : Int × List Int) : Res T := ⟨[vR T 3 y.1], [.sl 3 y.2]⟩
theorem laws_markIntS_de (res : Res T) (y : Int × List Int) (h : laws_markIntS_dec res = some y) : res = laws_markIntS_enc y := by
  obtain ⟨rets, outs⟩ := res
  unfold laws_markIntS_dec at h
  dsimp only at h
  split at h
  · obtain ⟨r0, h0, h⟩ := Option.bind_eq_some_iff.1 h
    obtain ⟨r1, h1, h⟩ := Option.bind_eq_some_iff.1 h
    cases h
    rw [retV_eq ok h0, outS_eq h1]
    rfl
  · cases h
def laws_heldLotS_dec (res : Res T) : Option Int := match res.rets, res.outs with
  | [a0], [] => (retV (T := T) 3 a0).bind fun r0 => some (r0)
  | _, _ => none
def laws_heldLotS_enc (y : Int) : Res T := ⟨[vR T 3 y], []⟩
theorem laws_heldLotS_de (res : Res T) (y : Int) (h : laws_heldLotS_dec res = some y) : res = laws_heldLotS_enc y := by
  obtain ⟨rets, outs⟩ := res
  unfold laws_heldLotS_dec at h
  dsimp only at h
  split at h
  · obtain ⟨r0, h0, h⟩ := Option.bind_eq_some_iff.1 h
    cases h
    rw [retV_eq ok h0]
    rfl
  · cases h
def laws_heldTraderS_dec (res : Res T) : Option Int := match res.rets, res.outs with
  | [a0], [] => (retV (T := T) 3 a0).bind fun r0 => some (r0)
  | _, _ => none
def laws_heldTraderS_enc (y : Int) : Res T := ⟨[vR T 3 y], []⟩
theorem laws_heldTraderS_de (res : Res T) (y : Int) (h : laws_heldTraderS_dec res = some y) : res = laws_heldTraderS_enc y := by
  obtain ⟨rets, outs⟩ := res
  unfold laws_heldTraderS_dec at h
  dsimp only at h
  split at h
  · obtain ⟨r0, h0, h⟩ := Option.bind_eq_some_iff.1 h
    cases h
    rw [retV_eq ok h0]
    rfl
  · cases h
def laws_heldHouse_dec (res : Res T) : Option Int := match res.rets, res.outs with
  | [a0], [] => (retV (T := T) 3 a0).bind fun r0 => some (r0)
  | _, _ => none
def laws_heldHouse_enc (y : Int) : Res T := ⟨[vR T 3 y], []⟩
theorem laws_heldHouse_de (res : Res T) (y : Int) (h : laws_heldHouse_dec res = some y) : res = laws_heldHouse_enc y := by
  obtain ⟨rets, outs⟩ := res
  unfold laws_heldHouse_dec at h
  dsimp only at h
  split at h
  · obtain ⟨r0, h0, h⟩ := Option.bind_eq_some_iff.1 h
    cases h
    rw [retV_eq ok h0]
    rfl
  · cases h
def laws_heldIntS_dec (res : Res T) : Option Int := match res.rets, res.outs with
  | [a0], [] => (retV (T := T) 3 a0).bind fun r0 => some (r0)
  | _, _ => none
def laws_heldIntS_enc (y : Int) : Res T := ⟨[vR T 3 y], []⟩
theorem laws_heldIntS_de (res : Res T) (y : Int) (h : laws_heldIntS_dec res = some y) : res = laws_heldIntS_enc y := by
  obtain ⟨rets, outs⟩ := res
  unfold laws_heldIntS_dec at h
  dsimp only at h
  split at h
  · obtain ⟨r0, h0, h⟩ := Option.bind_eq_some_iff.1 h
    cases h
    rw [retV_eq ok h0]
    rfl
  · cases h
def laws_FnExactRunDeeds_dec (res : Res T) : Option Bool := match res.rets, res.outs with
  | [a0], [] => (retV (T := T) 4 a0).bind fun r0 => some (r0)
  | _, _ => none
def laws_FnExactRunDeeds_enc (y : Bool) : Res T := ⟨[vR T 4 y], []⟩
theorem laws_FnExactRunDeeds_de (res : Res T) (y : Bool) (h : laws_FnExactRunDeeds_dec res = some y) : res = laws_FnExactRunDeeds_enc y := by
  obtain ⟨rets, outs⟩ := res
  unfold laws_FnExactRunDeeds_dec at h
  dsimp only at h
  split at h
  · obtain ⟨r0, h0, h⟩ := Option.bind_eq_some_iff.1 h
    cases h
    rw [retV_eq ok h0]
    rfl
  · cases h
def laws_szLotS_D (n : Nat) (r0 : List (A T)) : Option Int := ocons r0 fun a0 r1 => ocons r1 fun a1 r2 => onil r2 (obind (argV (T := T) 82 a0) fun a0 => obind (argV (T := T) 3 a1) fun left1 => laws_szLotS n a0 left1)
def laws_szLotS_ent (n : Nat) : Ent T := ⟨131, 0, [], Int, laws_szLotS_D n, laws_szLotS_enc⟩
def laws_szTraderS_D (n : Nat) (r0 : List (A T)) : Option Int := ocons r0 fun a0 r1 => ocons r1 fun a1 r2 => onil r2 (obind (argV (T := T) 83 a0) fun a0 => obind (argV (T := T) 3 a1) fun left1 => laws_szTraderS n a0 left1)
def laws_szTraderS_ent (n : Nat) : Ent T := ⟨132, 1, [], Int, laws_szTraderS_D n, laws_szTraderS_enc⟩
def laws_szHouse_D (n : Nat) (r0 : List (A T)) : Option Int := ocons r0 fun a0 r1 => ocons r1 fun a1 r2 => onil r2 (obind (argV (T := T) 85 a0) fun a0 => obind (argV (T := T) 3 a1) fun left1 => laws_szHouse n a0 left1)
def laws_szHouse_ent (n : Nat) : Ent T := ⟨48, 2, [], Int, laws_szHouse_D n, laws_szHouse_enc⟩
def laws_szDeedS_D (n : Nat) (r0 : List (A T)) : Option Int := ocons r0 fun a0 r1 => ocons r1 fun a1 r2 => onil r2 (obind (argV (T := T) 101 a0) fun a0 => obind (argV (T := T) 3 a1) fun left1 => laws_szDeedS n a0 left1)
def laws_szDeedS_ent (n : Nat) : Ent T := ⟨56, 3, [], Int, laws_szDeedS_D n, laws_szDeedS_enc⟩
def laws_toLot_D (n : Nat) (r0 : List (A T)) : Option SLot := ocons r0 fun a0 r1 => onil r1 (obind (argV (T := T) 239 a0) fun a0 => laws_toLot n a0)
def laws_toLot_ent (n : Nat) : Ent T := ⟨199, 4, [], SLot, laws_toLot_D n, laws_toLot_enc⟩
def laws_toLotS_D (n : Nat) (r0 : List (A T)) : Option (List SLot) := ocons r0 fun a0 r1 => onil r1 (obind (argV (T := T) 82 a0) fun a0 => laws_toLotS n a0)
def laws_toLotS_ent (n : Nat) : Ent T := ⟨139, 5, [], List SLot, laws_toLotS_D n, laws_toLotS_enc⟩
def laws_toTrader_D (n : Nat) (r0 : List (A T)) : Option STrader := ocons r0 fun a0 r1 => onil r1 (obind (argV (T := T) 241 a0) fun a0 => laws_toTrader n a0)
def laws_toTrader_ent (n : Nat) : Ent T := ⟨200, 6, [], STrader, laws_toTrader_D n, laws_toTrader_enc⟩
def laws_toTraderS_D (n : Nat) (r0 : List (A T)) : Option (List STrader) := ocons r0 fun a0 r1 => onil r1 (obind (argV (T := T) 83 a0) fun a0 => laws_toTraderS n a0)
def laws_toTraderS_ent (n : Nat) : Ent T := ⟨140, 7, [], List STrader, laws_toTraderS_D n, laws_toTraderS_enc⟩
def laws_toHouse_D (n : Nat) (r0 : List (A T)) : Option SHouse := ocons r0 fun a0 r1 => onil r1 (obind (argV (T := T) 85 a0) fun a0 => laws_toHouse n a0)
def laws_toHouse_ent (n : Nat) : Ent T := ⟨50, 8, [], SHouse, laws_toHouse_D n, laws_toHouse_enc⟩
def laws_toDeed_D (n : Nat) (r0 : List (A T)) : Option SDeed := ocons r0 fun a0 r1 => onil r1 (obind (argV (T := T) 87 a0) fun a0 => laws_toDeed n a0)
def laws_toDeed_ent (n : Nat) : Ent T := ⟨51, 9, [], SDeed, laws_toDeed_D n, laws_toDeed_enc⟩
def laws_toDeedS_D (n : Nat) (r0 : List (A T)) : Option (List SDeed) := ocons r0 fun a0 r1 => onil r1 (obind (argV (T := T) 101 a0) fun a0 => laws_toDeedS n a0)
def laws_toDeedS_ent (n : Nat) : Ent T := ⟨58, 10, [], List SDeed, laws_toDeedS_D n, laws_toDeedS_enc⟩
def spec_l16Copy_D (n : Nat) (r0 : List (A T)) : Option SHouse := ocons r0 fun a0 r1 => onil r1 (obind (argV (T := T) 92 a0) fun h0 => spec_l16Copy n h0)
def spec_l16Copy_ent (n : Nat) : Ent T := ⟨133, 11, [], SHouse, spec_l16Copy_D n, spec_l16Copy_enc⟩
def spec_l1In_D (n : Nat) (r0 : List (A T)) : Option Bool := ocons r0 fun a0 r1 => ocons r1 fun a1 r2 => ocons r2 fun a2 r3 => onil r3 (obind (argV (T := T) 3 a0) fun x0 => obind (argV (T := T) 3 a1) fun a1 => obind (argV (T := T) 3 a2) fun b2 => spec_l1In n x0 a1 b2)
def spec_l1In_ent (n : Nat) : Ent T := ⟨174, 12, [], Bool, spec_l1In_D n, spec_l1In_enc⟩
def spec_Duty6_D (n : Nat) (r0 : List (A T)) : Option (Int × Bool) := ocons r0 fun a0 r1 => ocons r1 fun a1 r2 => ocons r2 fun a2 r3 => onil r3 (obind (argV (T := T) 3 a0) fun many0 => obind (argV (T := T) 3 a1) fun value1 => obind (argV (T := T) 3 a2) fun rate2 => spec_Duty6 n many0 value1 rate2)
def spec_Duty6_ent (n : Nat) : Ent T := ⟨138, 13, [], Int × Bool, spec_Duty6_D n, spec_Duty6_enc⟩
def spec_HouseOk_D (n : Nat) (r0 : List (A T)) : Option Bool := ocons r0 fun a0 r1 => onil r1 (obind (argV (T := T) 92 a0) fun h0 => spec_HouseOk n h0)
def spec_HouseOk_ent (n : Nat) : Ent T := ⟨172, 14, [], Bool, spec_HouseOk_D n, spec_HouseOk_enc⟩
def spec_l16Bad_D (n : Nat) (r0 : List (A T)) : Option Bool := ocons r0 fun a0 r1 => ocons r1 fun a1 r2 => onil r2 (obind (argV (T := T) 92 a0) fun h0 => obind (argV (T := T) 96 a1) fun d1 => spec_l16Bad n h0 d1)
def spec_l16Bad_ent (n : Nat) : Ent T := ⟨134, 15, [], Bool, spec_l16Bad_D n, spec_l16Bad_enc⟩
def spec_l16Find_D (n : Nat) (r0 : List (A T)) : Option Int := ocons r0 fun a0 r1 => ocons r1 fun a1 r2 => onil r2 (obind (argV (T := T) 92 a0) fun h0 => obind (argV (T := T) 3 a1) fun id1 => spec_l16Find n h0 id1)
def spec_l16Find_ent (n : Nat) : Ent T := ⟨135, 16, [], Int, spec_l16Find_D n, spec_l16Find_enc⟩
def spec_l16With_D (n : Nat) (r0 : List (A T)) : Option SHouse := ocons r0 fun a0 r1 => ocons r1 fun a1 r2 => onil r2 (obind (argV (T := T) 92 a0) fun h0 => obind (argV (T := T) 116 a1) fun x1 => spec_l16With n h0 x1)
def spec_l16With_ent (n : Nat) : Ent T := ⟨136, 17, [], SHouse, spec_l16With_D n, spec_l16With_enc⟩
def spec_l16From_D (n : Nat) (r0 : List (A T)) : Option Int := ocons r0 fun a0 r1 => onil r1 (obind (argV (T := T) 3 a0) fun kind0 => spec_l16From n kind0)
def spec_l16From_ent (n : Nat) : Ent T := ⟨137, 18, [], Int, spec_l16From_D n, spec_l16From_enc⟩
def spec_DoDeed_D (n : Nat) (r0 : List (A T)) : Option (SHouse × Int) := ocons r0 fun a0 r1 => ocons r1 fun a1 r2 => onil r2 (obind (argV (T := T) 92 a0) fun h0 => obind (argV (T := T) 96 a1) fun d1 => spec_DoDeed n h0 d1)
def spec_DoDeed_ent (n : Nat) : Ent T := ⟨49, 19, [], SHouse × Int, spec_DoDeed_D n, spec_DoDeed_enc⟩
def spec_RunDeeds_D (n : Nat) (r0 : List (A T)) : Option (SHouse × List Int) := ocons r0 fun a0 r1 => ocons r1 fun a1 r2 => onil r2 (obind (argV (T := T) 92 a0) fun h0 => obind (argV (T := T) 105 a1) fun list1 => spec_RunDeeds n h0 list1)
def spec_RunDeeds_ent (n : Nat) : Ent T := ⟨57, 20, [], SHouse × List Int, spec_RunDeeds_D n, spec_RunDeeds_enc⟩
def impl_own_impl_Lot_D (n : Nat) (r0 : List (A T)) : Option (List SLot) := ocons r0 fun a0 r1 => onil r1 (obind (argV (T := T) 89 a0) fun l0 => impl_own_impl_Lot n l0)
def impl_own_impl_Lot_ent (n : Nat) : Ent T := ⟨201, 21, [], List SLot, impl_own_impl_Lot_D n, impl_own_impl_Lot_enc⟩
def impl_own_impl_Trader_D (n : Nat) (r0 : List (A T)) : Option (List STrader) := ocons r0 fun a0 r1 => onil r1 (obind (argV (T := T) 90 a0) fun l0 => impl_own_impl_Trader n l0)
def impl_own_impl_Trader_ent (n : Nat) : Ent T := ⟨202, 22, [], List STrader, impl_own_impl_Trader_D n, impl_own_impl_Trader_enc⟩
def impl_House_own_D (n : Nat) (r0 : List (A T)) : Option SHouse := ocons r0 fun a0 r1 => onil r1 (obind (argV (T := T) 92 a0) fun h0 => impl_House_own n h0)
def impl_House_own_ent (n : Nat) : Ent T := ⟨141, 23, [], SHouse, impl_House_own_D n, impl_House_own_enc⟩
def impl_in_D (n : Nat) (r0 : List (A T)) : Option Bool := ocons r0 fun a0 r1 => ocons r1 fun a1 r2 => ocons r2 fun a2 r3 => onil r3 (obind (argV (T := T) 3 a0) fun n0 => obind (argV (T := T) 3 a1) fun least1 => obind (argV (T := T) 3 a2) fun most2 => impl_in n n0 least1 most2)
def impl_in_ent (n : Nat) : Ent T := ⟨101, 24, [], Bool, impl_in_D n, impl_in_enc⟩
def impl_idRight_D (n : Nat) (r0 : List (A T)) : Option Bool := ocons r0 fun a0 r1 => onil r1 (obind (argV (T := T) 3 a0) fun n0 => impl_idRight n n0)
def impl_idRight_ent (n : Nat) : Ent T := ⟨102, 25, [], Bool, impl_idRight_D n, impl_idRight_enc⟩
def impl_lotRight_D (n : Nat) (r0 : List (A T)) : Option Bool := ocons r0 fun a0 r1 => ocons r1 fun a1 r2 => ocons r2 fun a2 r3 => onil r3 (obind (argV (T := T) 3 a0) fun many0 => obind (argV (T := T) 3 a1) fun value1 => obind (argV (T := T) 3 a2) fun rate2 => impl_lotRight n many0 value1 rate2)
def impl_lotRight_ent (n : Nat) : Ent T := ⟨142, 26, [], Bool, impl_lotRight_D n, impl_lotRight_enc⟩
def impl_Duty6_D (n : Nat) (r0 : List (A T)) : Option (Int × Bool) := ocons r0 fun a0 r1 => ocons r1 fun a1 r2 => ocons r2 fun a2 r3 => onil r3 (obind (argV (T := T) 3 a0) fun many0 => obind (argV (T := T) 3 a1) fun value1 => obind (argV (T := T) 3 a2) fun rate2 => impl_Duty6 n many0 value1 rate2)
def impl_Duty6_ent (n : Nat) : Ent T := ⟨64, 27, [], Int × Bool, impl_Duty6_D n, impl_Duty6_enc⟩
def impl_Lot_duty_D (n : Nat) (r0 : List (A T)) : Option Int := ocons r0 fun a0 r1 => onil r1 (obind (argV (T := T) 116 a0) fun l0 => impl_Lot_duty n l0)
def impl_Lot_duty_ent (n : Nat) : Ent T := ⟨146, 28, [], Int, impl_Lot_duty_D n, impl_Lot_duty_enc⟩
def impl_HouseOk_D (n : Nat) (r0 : List (A T)) : Option Bool := ocons r0 fun a0 r1 => onil r1 (obind (argV (T := T) 92 a0) fun h0 => impl_HouseOk n h0)
def impl_HouseOk_ent (n : Nat) : Ent T := ⟨63, 29, [], Bool, impl_HouseOk_D n, impl_HouseOk_enc⟩
def impl_House_lot_1_D (n : Nat) (r0 : List (A T)) : Option Bool := ocons r0 fun a0 r1 => ocons r1 fun a1 r2 => onil r2 (obind (argV (T := T) 116 a0) fun l0 => obind (argP (T := T) 3 a1) fun a1 => impl_House_lot_1 n l0 a1)
def impl_House_lot_1_ent (n : Nat) : Ent T := ⟨204, 30, [], Bool, impl_House_lot_1_D n, impl_House_lot_1_enc⟩
def slices_IndexFunc_impl_Lot_impl_Lot__impl_House_lot_1_D (n : Nat) (ar : List (A T)) : Option Int := match ar with
  | [a0, .fn _ [k1_0]] => obind (argV (T := T) 89 a0) fun s0 => obind (argP (T := T) 3 k1_0) fun f1c0 => slices_IndexFunc_impl_Lot_impl_Lot__impl_House_lot_1 n s0 f1c0
  | _ => none
def slices_IndexFunc_impl_Lot_impl_Lot__impl_House_lot_1_ent (n : Nat) : Ent T := ⟨203, 31, [204], Int, slices_IndexFunc_impl_Lot_impl_Lot__impl_House_lot_1_D n, slices_IndexFunc_impl_Lot_impl_Lot__impl_House_lot_1_enc⟩
def impl_House_lot_D (n : Nat) (r0 : List (A T)) : Option Int := ocons r0 fun a0 r1 => ocons r1 fun a1 r2 => onil r2 (obind (argV (T := T) 92 a0) fun h0 => obind (argV (T := T) 3 a1) fun id1 => impl_House_lot n h0 id1)
def impl_House_lot_ent (n : Nat) : Ent T := ⟨144, 32, [], Int, impl_House_lot_D n, impl_House_lot_enc⟩
def impl_DoDeed_1_D (n : Nat) (r0 : List (A T)) : Option Bool := ocons r0 fun a0 r1 => ocons r1 fun a1 r2 => onil r2 (obind (argV (T := T) 3 a0) fun id0 => obind (argP (T := T) 92 a1) fun a1 => impl_DoDeed_1 n id0 a1)
def impl_DoDeed_1_ent (n : Nat) : Ent T := ⟨143, 33, [], Bool, impl_DoDeed_1_D n, impl_DoDeed_1_enc⟩
def impl_House_put_1_D (n : Nat) (r0 : List (A T)) : Option Int := ocons r0 fun a0 r1 => ocons r1 fun a1 r2 => onil r2 (obind (argV (T := T) 116 a0) fun a0 => obind (argV (T := T) 116 a1) fun b1 => impl_House_put_1 n a0 b1)
def impl_House_put_1_ent (n : Nat) : Ent T := ⟨206, 34, [], Int, impl_House_put_1_D n, impl_House_put_1_enc⟩
def slices_SortFunc_impl_Lot_impl_Lot__impl_House_put_1_D (n : Nat) (ar : List (A T)) : Option (List SLot) := match ar with
  | [a0, .fn _ []] => obind (argV (T := T) 89 a0) fun l0 => slices_SortFunc_impl_Lot_impl_Lot__impl_House_put_1 n l0
  | _ => none
def slices_SortFunc_impl_Lot_impl_Lot__impl_House_put_1_ent (n : Nat) : Ent T := ⟨205, 35, [206], List SLot, slices_SortFunc_impl_Lot_impl_Lot__impl_House_put_1_D n, slices_SortFunc_impl_Lot_impl_Lot__impl_House_put_1_enc⟩
def impl_House_put_D (n : Nat) (r0 : List (A T)) : Option SHouse := ocons r0 fun a0 r1 => ocons r1 fun a1 r2 => onil r2 (obind (argP (T := T) 92 a0) fun h0 => obind (argV (T := T) 116 a1) fun l1 => impl_House_put n h0 l1)
def impl_House_put_ent (n : Nat) : Ent T := ⟨145, 36, [], SHouse, impl_House_put_D n, impl_House_put_enc⟩
def impl_DoDeed_D (n : Nat) (r0 : List (A T)) : Option (SHouse × Int) := ocons r0 fun a0 r1 => ocons r1 fun a1 r2 => onil r2 (obind (argV (T := T) 92 a0) fun h0 => obind (argV (T := T) 96 a1) fun d1 => impl_DoDeed n h0 d1)
def impl_DoDeed_ent (n : Nat) : Ent T := ⟨52, 37, [], SHouse × Int, impl_DoDeed_D n, impl_DoDeed_enc⟩
def impl_own_int_D (n : Nat) (r0 : List (A T)) : Option (List Int) := ocons r0 fun a0 r1 => onil r1 (obind (argV (T := T) 23 a0) fun l0 => impl_own_int n l0)
def impl_own_int_ent (n : Nat) : Ent T := ⟨104, 38, [], List Int, impl_own_int_D n, impl_own_int_enc⟩
def impl_RunDeeds_D (n : Nat) (r0 : List (A T)) : Option (SHouse × List Int) := ocons r0 fun a0 r1 => ocons r1 fun a1 r2 => onil r2 (obind (argV (T := T) 92 a0) fun h0 => obind (argV (T := T) 105 a1) fun list1 => impl_RunDeeds n h0 list1)
def impl_RunDeeds_ent (n : Nat) : Ent T := ⟨59, 39, [], SHouse × List Int, impl_RunDeeds_D n, impl_RunDeeds_enc⟩
def laws_eqLot_D (n : Nat) (r0 : List (A T)) : Option Bool := ocons r0 fun a0 r1 => ocons r1 fun a1 r2 => onil r2 (obind (argV (T := T) 116 a0) fun a0 => obind (argV (T := T) 116 a1) fun b1 => laws_eqLot n a0 b1)
def laws_eqLot_ent (n : Nat) : Ent T := ⟨207, 40, [], Bool, laws_eqLot_D n, laws_eqLot_enc⟩
def laws_eqLotS_D (n : Nat) (r0 : List (A T)) : Option Bool := ocons r0 fun a0 r1 => ocons r1 fun a1 r2 => onil r2 (obind (argV (T := T) 89 a0) fun a0 => obind (argV (T := T) 89 a1) fun b1 => laws_eqLotS n a0 b1)
def laws_eqLotS_ent (n : Nat) : Ent T := ⟨147, 41, [], Bool, laws_eqLotS_D n, laws_eqLotS_enc⟩
def laws_eqTrader_D (n : Nat) (r0 : List (A T)) : Option Bool := ocons r0 fun a0 r1 => ocons r1 fun a1 r2 => onil r2 (obind (argV (T := T) 114 a0) fun a0 => obind (argV (T := T) 114 a1) fun b1 => laws_eqTrader n a0 b1)
def laws_eqTrader_ent (n : Nat) : Ent T := ⟨208, 42, [], Bool, laws_eqTrader_D n, laws_eqTrader_enc⟩
def laws_eqTraderS_D (n : Nat) (r0 : List (A T)) : Option Bool := ocons r0 fun a0 r1 => ocons r1 fun a1 r2 => onil r2 (obind (argV (T := T) 90 a0) fun a0 => obind (argV (T := T) 90 a1) fun b1 => laws_eqTraderS n a0 b1)
def laws_eqTraderS_ent (n : Nat) : Ent T := ⟨148, 43, [], Bool, laws_eqTraderS_D n, laws_eqTraderS_enc⟩
def laws_eqHouse_D (n : Nat) (r0 : List (A T)) : Option Bool := ocons r0 fun a0 r1 => ocons r1 fun a1 r2 => onil r2 (obind (argV (T := T) 92 a0) fun a0 => obind (argV (T := T) 92 a1) fun b1 => laws_eqHouse n a0 b1)
def laws_eqHouse_ent (n : Nat) : Ent T := ⟨53, 44, [], Bool, laws_eqHouse_D n, laws_eqHouse_enc⟩
def laws_eqIntS_D (n : Nat) (r0 : List (A T)) : Option Bool := ocons r0 fun a0 r1 => ocons r1 fun a1 r2 => onil r2 (obind (argV (T := T) 23 a0) fun a0 => obind (argV (T := T) 23 a1) fun b1 => laws_eqIntS n a0 b1)
def laws_eqIntS_ent (n : Nat) : Ent T := ⟨31, 45, [], Bool, laws_eqIntS_D n, laws_eqIntS_enc⟩
def laws_eqDeed_D (n : Nat) (r0 : List (A T)) : Option Bool := ocons r0 fun a0 r1 => ocons r1 fun a1 r2 => onil r2 (obind (argV (T := T) 96 a0) fun a0 => obind (argV (T := T) 96 a1) fun b1 => laws_eqDeed n a0 b1)
def laws_eqDeed_ent (n : Nat) : Ent T := ⟨153, 46, [], Bool, laws_eqDeed_D n, laws_eqDeed_enc⟩
def laws_eqDeedS_D (n : Nat) (r0 : List (A T)) : Option Bool := ocons r0 fun a0 r1 => ocons r1 fun a1 r2 => onil r2 (obind (argV (T := T) 105 a0) fun a0 => obind (argV (T := T) 105 a1) fun b1 => laws_eqDeedS n a0 b1)
def laws_eqDeedS_ent (n : Nat) : Ent T := ⟨60, 47, [], Bool, laws_eqDeedS_D n, laws_eqDeedS_enc⟩
def laws_markLotS_D (n : Nat) (r0 : List (A T)) : Option (Int × List SLot) := ocons r0 fun a0 r1 => ocons r1 fun a1 r2 => onil r2 (obind (argV (T := T) 89 a0) fun a0 => obind (argV (T := T) 3 a1) fun k1 => laws_markLotS n a0 k1)
def laws_markLotS_ent (n : Nat) : Ent T := ⟨149, 48, [], Int × List SLot, laws_markLotS_D n, laws_markLotS_enc⟩
def laws_markTraderS_D (n : Nat) (r0 : List (A T)) : Option (Int × List STrader) := ocons r0 fun a0 r1 => ocons r1 fun a1 r2 => onil r2 (obind (argV (T := T) 90 a0) fun a0 => obind (argV (T := T) 3 a1) fun k1 => laws_markTraderS n a0 k1)
def laws_markTraderS_ent (n : Nat) : Ent T := ⟨150, 49, [], Int × List STrader, laws_markTraderS_D n, laws_markTraderS_enc⟩
def laws_markHouse_D (n : Nat) (r0 : List (A T)) : Option (Int × List SLot × List STrader) := ocons r0 fun a0 r1 => ocons r1 fun a1 r2 => onil r2 (obind (argV (T := T) 92 a0) fun a0 => obind (argV (T := T) 3 a1) fun k1 => laws_markHouse n a0 k1)
def laws_markHouse_ent (n : Nat) : Ent T := ⟨54, 50, [], Int × List SLot × List STrader, laws_markHouse_D n, laws_markHouse_enc⟩
def laws_markDeedS_D (n : Nat) (r0 : List (A T)) : Option (Int × List SDeed) := ocons r0 fun a0 r1 => ocons r1 fun a1 r2 => onil r2 (obind (argV (T := T) 105 a0) fun a0 => obind (argV (T := T) 3 a1) fun k1 => laws_markDeedS n a0 k1)
def laws_markDeedS_ent (n : Nat) : Ent T := ⟨61, 51, [], Int × List SDeed, laws_markDeedS_D n, laws_markDeedS_enc⟩
def laws_markIntS_D (n : Nat) (r0 : List (A T)) : Option (Int × List Int) := ocons r0 fun a0 r1 => ocons r1 fun a1 r2 => onil r2 (obind (argV (T := T) 23 a0) fun a0 => obind (argV (T := T) 3 a1) fun k1 => laws_markIntS n a0 k1)
def laws_markIntS_ent (n : Nat) : Ent T := ⟨34, 52, [], Int × List Int, laws_markIntS_D n, laws_markIntS_enc⟩
def laws_heldLotS_D (n : Nat) (r0 : List (A T)) : Option Int := ocons r0 fun a0 r1 => ocons r1 fun a1 r2 => onil r2 (obind (argV (T := T) 89 a0) fun a0 => obind (argV (T := T) 3 a1) fun k1 => laws_heldLotS n a0 k1)
def laws_heldLotS_ent (n : Nat) : Ent T := ⟨151, 53, [], Int, laws_heldLotS_D n, laws_heldLotS_enc⟩
def laws_heldTraderS_D (n : Nat) (r0 : List (A T)) : Option Int := ocons r0 fun a0 r1 => ocons r1 fun a1 r2 => onil r2 (obind (argV (T := T) 90 a0) fun a0 => obind (argV (T := T) 3 a1) fun k1 => laws_heldTraderS n a0 k1)
def laws_heldTraderS_ent (n : Nat) : Ent T := ⟨152, 54, [], Int, laws_heldTraderS_D n, laws_heldTraderS_enc⟩
def laws_heldHouse_D (n : Nat) (r0 : List (A T)) : Option Int := ocons r0 fun a0 r1 => ocons r1 fun a1 r2 => onil r2 (obind (argV (T := T) 92 a0) fun a0 => obind (argV (T := T) 3 a1) fun k1 => laws_heldHouse n a0 k1)
def laws_heldHouse_ent (n : Nat) : Ent T := ⟨55, 55, [], Int, laws_heldHouse_D n, laws_heldHouse_enc⟩
def laws_heldIntS_D (n : Nat) (r0 : List (A T)) : Option Int := ocons r0 fun a0 r1 => ocons r1 fun a1 r2 => onil r2 (obind (argV (T := T) 23 a0) fun a0 => obind (argV (T := T) 3 a1) fun k1 => laws_heldIntS n a0 k1)
def laws_heldIntS_ent (n : Nat) : Ent T := ⟨35, 56, [], Int, laws_heldIntS_D n, laws_heldIntS_enc⟩
def laws_FnExactRunDeeds_D (n : Nat) (r0 : List (A T)) : Option Bool := ocons r0 fun a0 r1 => ocons r1 fun a1 r2 => onil r2 (obind (argV (T := T) 85 a0) fun aH0 => obind (argV (T := T) 101 a1) fun aList1 => laws_FnExactRunDeeds n aH0 aList1)
def laws_FnExactRunDeeds_ent (n : Nat) : Ent T := ⟨9, 57, [], Bool, laws_FnExactRunDeeds_D n, laws_FnExactRunDeeds_enc⟩
def ents (n : Nat) : List (Ent T) := [laws_szLotS_ent n, laws_szTraderS_ent n, laws_szHouse_ent n, laws_szDeedS_ent n, laws_toLot_ent n, laws_toLotS_ent n, laws_toTrader_ent n, laws_toTraderS_ent n, laws_toHouse_ent n, laws_toDeed_ent n, laws_toDeedS_ent n, spec_l16Copy_ent n, spec_l1In_ent n, spec_Duty6_ent n, spec_HouseOk_ent n, spec_l16Bad_ent n, spec_l16Find_ent n, spec_l16With_ent n, spec_l16From_ent n, spec_DoDeed_ent n, spec_RunDeeds_ent n, impl_own_impl_Lot_ent n, impl_own_impl_Trader_ent n, impl_House_own_ent n, impl_in_ent n, impl_idRight_ent n, impl_lotRight_ent n, impl_Duty6_ent n, impl_Lot_duty_ent n, impl_HouseOk_ent n, impl_House_lot_1_ent n, slices_IndexFunc_impl_Lot_impl_Lot__impl_House_lot_1_ent n, impl_House_lot_ent n, impl_DoDeed_1_ent n, impl_House_put_1_ent n, slices_SortFunc_impl_Lot_impl_Lot__impl_House_put_1_ent n, impl_House_put_ent n, impl_DoDeed_ent n, impl_own_int_ent n, impl_RunDeeds_ent n, laws_eqLot_ent n, laws_eqLotS_ent n, laws_eqTrader_ent n, laws_eqTraderS_ent n, laws_eqHouse_ent n, laws_eqIntS_ent n, laws_eqDeed_ent n, laws_eqDeedS_ent n, laws_markLotS_ent n, laws_markTraderS_ent n, laws_markHouse_ent n, laws_markDeedS_ent n, laws_markIntS_ent n, laws_heldLotS_ent n, laws_heldTraderS_ent n, laws_heldHouse_ent n, laws_heldIntS_ent n, laws_FnExactRunDeeds_ent n]
abbrev Phi (n i : Nat) {R : Type} (f : Nat) (ar : List (A T)) (K : Res T → Option R) : Option R := PhiE (ents n) i f ar K
theorem mixed : Try.prog.follows .mixedOrders = true := by kernel_rfl
noncomputable def laws_szLotS_code : Code := match Try.f131.body with | some c => c | none => .skip
def laws_szLotS_ann : Ann := fun id => none
def laws_szLotS_Ls (n : Nat) : Nat → Option (LSpec T) := fun id => none
theorem laws_szLotS_tie (n : Nat) (a0 : List SLot) (left1 : Int) : evF (T := T) (Phi n 0) (laws_szLotS_Ls n) laws_szLotS_ann n Try.f131 (sg 131) [vA T 82 a0, vA T 3 left1] laws_szLotS_dec = laws_szLotS n a0 left1 := by kernel_rfl
theorem laws_szLotS_lo (n : Nat) : LoopsOk (T := T) (Phi n 0) (laws_szLotS_Ls n) laws_szLotS_ann n laws_szLotS_code := loopsOk_all (cs := []) (by kernel_rfl) trivial
theorem laws_szLotS_ok (n : Nat) : EntOk Try.prog (ents n) (laws_szLotS_ent n) := by
  intro hs ar y hg h
  replace h : laws_szLotS_D n ar = some y := h
  unfold laws_szLotS_D at h
  replace h := ocons_some h
  obtain ⟨a0, r0, rfl, h⟩ := h
  replace h := ocons_some h
  obtain ⟨a1, r1, rfl, h⟩ := h
  replace h := onil_some h
  obtain ⟨rfl, h⟩ := h
  obtain ⟨a0, qh0, h⟩ := obind_some h
  obtain ⟨left1, qh1, h⟩ := obind_some h
  rw [argV_eq ok qh0, argV_eq ok qh1]
  exact call_of (phiE_nat _ _) hs ok mixed Try.func131 (c := laws_szLotS_code) (by kernel_rfl) (laws_szLotS_lo n) (by kernel_rfl) (by kernel_rfl) (by kernel_rfl) laws_szLotS_de ((laws_szLotS_tie n a0 left1).trans h)
noncomputable def laws_szTraderS_code : Code := match Try.f132.body with | some c => c | none => .skip
def laws_szTraderS_ann : Ann := fun id => none
def laws_szTraderS_Ls (n : Nat) : Nat → Option (LSpec T) := fun id => none
theorem laws_szTraderS_tie (n : Nat) (a0 : List STrader) (left1 : Int) : evF (T := T) (Phi n 1) (laws_szTraderS_Ls n) laws_szTraderS_ann n Try.f132 (sg 132) [vA T 83 a0, vA T 3 left1] laws_szTraderS_dec = laws_szTraderS n a0 left1 := by kernel_rfl
theorem laws_szTraderS_lo (n : Nat) : LoopsOk (T := T) (Phi n 1) (laws_szTraderS_Ls n) laws_szTraderS_ann n laws_szTraderS_code := loopsOk_all (cs := []) (by kernel_rfl) trivial
theorem laws_szTraderS_ok (n : Nat) : EntOk Try.prog (ents n) (laws_szTraderS_ent n) := by
  intro hs ar y hg h
  replace h : laws_szTraderS_D n ar = some y := h
  unfold laws_szTraderS_D at h
  replace h := ocons_some h
  obtain ⟨a0, r0, rfl, h⟩ := h
  replace h := ocons_some h
  obtain ⟨a1, r1, rfl, h⟩ := h
  replace h := onil_some h
  obtain ⟨rfl, h⟩ := h
  obtain ⟨a0, qh0, h⟩ := obind_some h
  obtain ⟨left1, qh1, h⟩ := obind_some h
  rw [argV_eq ok qh0, argV_eq ok qh1]
  exact call_of (phiE_nat _ _) hs ok mixed Try.func132 (c := laws_szTraderS_code) (by kernel_rfl) (laws_szTraderS_lo n) (by kernel_rfl) (by kernel_rfl) (by kernel_rfl) laws_szTraderS_de ((laws_szTraderS_tie n a0 left1).trans h)
noncomputable def laws_szHouse_code : Code := match Try.f48.body with | some c => c | none => .skip
def laws_szHouse_ann : Ann := fun id => none
def laws_szHouse_Ls (n : Nat) : Nat → Option (LSpec T) := fun id => none
theorem laws_szHouse_tie (n : Nat) (a0 : SHouse) (left1 : Int) : evF (T := T) (Phi n 2) (laws_szHouse_Ls n) laws_szHouse_ann n Try.f48 (sg 48) [vA T 85 a0, vA T 3 left1] laws_szHouse_dec = laws_szHouse n a0 left1 := by kernel_rfl
theorem laws_szHouse_lo (n : Nat) : LoopsOk (T := T) (Phi n 2) (laws_szHouse_Ls n) laws_szHouse_ann n laws_szHouse_code := loopsOk_all (cs := []) (by kernel_rfl) trivial
theorem laws_szHouse_ok (n : Nat) : EntOk Try.prog (ents n) (laws_szHouse_ent n) := by
  intro hs ar y hg h
  replace h : laws_szHouse_D n ar = some y := h
  unfold laws_szHouse_D at h
  replace h := ocons_some h
  obtain ⟨a0, r0, rfl, h⟩ := h
  replace h := ocons_some h
  obtain ⟨a1, r1, rfl, h⟩ := h
  replace h := onil_some h
  obtain ⟨rfl, h⟩ := h
  obtain ⟨a0, qh0, h⟩ := obind_some h
  obtain ⟨left1, qh1, h⟩ := obind_some h
  rw [argV_eq ok qh0, argV_eq ok qh1]
  exact call_of (phiE_nat _ _) hs ok mixed Try.func48 (c := laws_szHouse_code) (by kernel_rfl) (laws_szHouse_lo n) (by kernel_rfl) (by kernel_rfl) (by kernel_rfl) laws_szHouse_de ((laws_szHouse_tie n a0 left1).trans h)
noncomputable def laws_szDeedS_code : Code := match Try.f56.body with | some c => c | none => .skip
def laws_szDeedS_ann : Ann := fun id => none
def laws_szDeedS_Ls (n : Nat) : Nat → Option (LSpec T) := fun id => none
theorem laws_szDeedS_tie (n : Nat) (a0 : List SDeed) (left1 : Int) : evF (T := T) (Phi n 3) (laws_szDeedS_Ls n) laws_szDeedS_ann n Try.f56 (sg 56) [vA T 101 a0, vA T 3 left1] laws_szDeedS_dec = laws_szDeedS n a0 left1 := by kernel_rfl
theorem laws_szDeedS_lo (n : Nat) : LoopsOk (T := T) (Phi n 3) (laws_szDeedS_Ls n) laws_szDeedS_ann n laws_szDeedS_code := loopsOk_all (cs := []) (by kernel_rfl) trivial
theorem laws_szDeedS_ok (n : Nat) : EntOk Try.prog (ents n) (laws_szDeedS_ent n) := by
  intro hs ar y hg h
  replace h : laws_szDeedS_D n ar = some y := h
  unfold laws_szDeedS_D at h
  replace h := ocons_some h
  obtain ⟨a0, r0, rfl, h⟩ := h
  replace h := ocons_some h
  obtain ⟨a1, r1, rfl, h⟩ := h
  replace h := onil_some h
  obtain ⟨rfl, h⟩ := h
  obtain ⟨a0, qh0, h⟩ := obind_some h
  obtain ⟨left1, qh1, h⟩ := obind_some h
  rw [argV_eq ok qh0, argV_eq ok qh1]
  exact call_of (phiE_nat _ _) hs ok mixed Try.func56 (c := laws_szDeedS_code) (by kernel_rfl) (laws_szDeedS_lo n) (by kernel_rfl) (by kernel_rfl) (by kernel_rfl) laws_szDeedS_de ((laws_szDeedS_tie n a0 left1).trans h)
noncomputable def laws_toLot_code : Code := match Try.f199.body with | some c => c | none => .skip
def laws_toLot_ann : Ann := fun id => none
def laws_toLot_Ls (n : Nat) : Nat → Option (LSpec T) := fun id => none
theorem laws_toLot_tie (n : Nat) (a0 : SLot) : evF (T := T) (Phi n 4) (laws_toLot_Ls n) laws_toLot_ann n Try.f199 (sg 199) [vA T 239 a0] laws_toLot_dec = laws_toLot n a0 := by kernel_rfl
theorem laws_toLot_lo (n : Nat) : LoopsOk (T := T) (Phi n 4) (laws_toLot_Ls n) laws_toLot_ann n laws_toLot_code := loopsOk_all (cs := []) (by kernel_rfl) trivial
theorem laws_toLot_ok (n : Nat) : EntOk Try.prog (ents n) (laws_toLot_ent n) := by
  intro hs ar y hg h
  replace h : laws_toLot_D n ar = some y := h
  unfold laws_toLot_D at h
  replace h := ocons_some h
  obtain ⟨a0, r0, rfl, h⟩ := h
  replace h := onil_some h
  obtain ⟨rfl, h⟩ := h
  obtain ⟨a0, qh0, h⟩ := obind_some h
  rw [argV_eq ok qh0]
  exact call_of (phiE_nat _ _) hs ok mixed Try.func199 (c := laws_toLot_code) (by kernel_rfl) (laws_toLot_lo n) (by kernel_rfl) (by kernel_rfl) (by kernel_rfl) laws_toLot_de ((laws_toLot_tie n a0).trans h)
noncomputable def laws_toLotS_code : Code := match Try.f139.body with | some c => c | none => .skip
def laws_toLotS_3_sv : List Sv := [.one (.arr 239), .one (.own 3000000 116 false), .one (.int .i64)]
def laws_toLotS_3_so : List So := [.arr 116 false]
def laws_toLotS_3_emb (c : List SLot) (x : Int × List SLot) : EVs T laws_toLotS_3_sv × EOs T laws_toLotS_3_so := ((c, (), x.1, ()), (x.2, ()))
def laws_toLotS_3_prj (y : EVs T laws_toLotS_3_sv × EOs T laws_toLotS_3_so) : List SLot × (Int × List SLot) := ((y.1.1), (y.1.2.2.1, y.2.1))
def laws_toLotS_3_b (n : Nat) {R : Type} (K : Ex → Sm.St T → Option R) (c : List SLot) (x : Int × List SLot) (J : (Int × List SLot) → Option R) : Option R :=
  laws_toLotS_L3 n (fun (y0 : List SLot) => K (.exit 0) (stOf (T := T) [3] [3000000] [.one (.own 3000000 116 false)] [.arr 116 false] ((), ()) (y0, ()))) (fun z0 z1 => J (z0, z1)) c x.1 x.2
def laws_toLotS_3_sp (n : Nat) : LSpec T := mkSpec T ⟨[((.reg 3), 3000000, 116)], [0, 3, 4], [3000000]⟩ laws_toLotS_3_sv laws_toLotS_3_so (List SLot) (Int × List SLot) laws_toLotS_3_emb laws_toLotS_3_prj (laws_toLotS_3_b n)
noncomputable def laws_toLotS_3_c : Code := ((loopCodes laws_toLotS_code)[0]?).getD .skip
def laws_toLotS_ann : Ann := fun id => bif Nat.beq id 3000003 then some ⟨[((.reg 3), 3000000, 116)], [3], [3000000]⟩ else none
def laws_toLotS_Ls (n : Nat) : Nat → Option (LSpec T) := fun id => bif Nat.beq id 3 then some (laws_toLotS_3_sp n) else none
theorem laws_toLotS_3_le (n : Nat) : LoopEq (T := T) (Phi n 5) (laws_toLotS_Ls n) laws_toLotS_ann n laws_toLotS_3_c (laws_toLotS_3_sp n) := ⟨mkSpec_dec (fun y => rfl), fun c x => by kernel_rfl, fun K J c x => by kernel_rfl⟩
theorem laws_toLotS_tie (n : Nat) (a0 : List SLot) : evF (T := T) (Phi n 5) (laws_toLotS_Ls n) laws_toLotS_ann n Try.f139 (sg 139) [vA T 82 a0] laws_toLotS_dec = laws_toLotS n a0 := by kernel_rfl
theorem laws_toLotS_lo (n : Nat) : LoopsOk (T := T) (Phi n 5) (laws_toLotS_Ls n) laws_toLotS_ann n laws_toLotS_code := loopsOk_all (cs := [laws_toLotS_3_c]) (by kernel_rfl) ⟨⟨_, by kernel_rfl, laws_toLotS_3_le n⟩, trivial⟩
theorem laws_toLotS_ok (n : Nat) : EntOk Try.prog (ents n) (laws_toLotS_ent n) := by
  intro hs ar y hg h
  replace h : laws_toLotS_D n ar = some y := h
  unfold laws_toLotS_D at h
  replace h := ocons_some h
  obtain ⟨a0, r0, rfl, h⟩ := h
  replace h := onil_some h
  obtain ⟨rfl, h⟩ := h
  obtain ⟨a0, qh0, h⟩ := obind_some h
  rw [argV_eq ok qh0]
  exact call_of (phiE_nat _ _) hs ok mixed Try.func139 (c := laws_toLotS_code) (by kernel_rfl) (laws_toLotS_lo n) (by kernel_rfl) (by kernel_rfl) (by kernel_rfl) laws_toLotS_de ((laws_toLotS_tie n a0).trans h)
noncomputable def laws_toTrader_code : Code := match Try.f200.body with | some c => c | none => .skip
def laws_toTrader_ann : Ann := fun id => none
def laws_toTrader_Ls (n : Nat) : Nat → Option (LSpec T) := fun id => none
theorem laws_toTrader_tie (n : Nat) (a0 : STrader) : evF (T := T) (Phi n 6) (laws_toTrader_Ls n) laws_toTrader_ann n Try.f200 (sg 200) [vA T 241 a0] laws_toTrader_dec = laws_toTrader n a0 := by kernel_rfl
theorem laws_toTrader_lo (n : Nat) : LoopsOk (T := T) (Phi n 6) (laws_toTrader_Ls n) laws_toTrader_ann n laws_toTrader_code := loopsOk_all (cs := []) (by kernel_rfl) trivial
theorem laws_toTrader_ok (n : Nat) : EntOk Try.prog (ents n) (laws_toTrader_ent n) := by
  intro hs ar y hg h
  replace h : laws_toTrader_D n ar = some y := h
  unfold laws_toTrader_D at h
  replace h := ocons_some h
  obtain ⟨a0, r0, rfl, h⟩ := h
  replace h := onil_some h
  obtain ⟨rfl, h⟩ := h
  obtain ⟨a0, qh0, h⟩ := obind_some h
  rw [argV_eq ok qh0]
  exact call_of (phiE_nat _ _) hs ok mixed Try.func200 (c := laws_toTrader_code) (by kernel_rfl) (laws_toTrader_lo n) (by kernel_rfl) (by kernel_rfl) (by kernel_rfl) laws_toTrader_de ((laws_toTrader_tie n a0).trans h)
noncomputable def laws_toTraderS_code : Code := match Try.f140.body with | some c => c | none => .skip
def laws_toTraderS_3_sv : List Sv := [.one (.arr 241), .one (.own 3000000 114 false), .one (.int .i64)]
def laws_toTraderS_3_so : List So := [.arr 114 false]
def laws_toTraderS_3_emb (c : List STrader) (x : Int × List STrader) : EVs T laws_toTraderS_3_sv × EOs T laws_toTraderS_3_so := ((c, (), x.1, ()), (x.2, ()))
def laws_toTraderS_3_prj (y : EVs T laws_toTraderS_3_sv × EOs T laws_toTraderS_3_so) : List STrader × (Int × List STrader) := ((y.1.1), (y.1.2.2.1, y.2.1))
def laws_toTraderS_3_b (n : Nat) {R : Type} (K : Ex → Sm.St T → Option R) (c : List STrader) (x : Int × List STrader) (J : (Int × List STrader) → Option R) : Option R :=
  laws_toTraderS_L3 n (fun (y0 : List STrader) => K (.exit 0) (stOf (T := T) [3] [3000000] [.one (.own 3000000 114 false)] [.arr 114 false] ((), ()) (y0, ()))) (fun z0 z1 => J (z0, z1)) c x.1 x.2
def laws_toTraderS_3_sp (n : Nat) : LSpec T := mkSpec T ⟨[((.reg 3), 3000000, 114)], [0, 3, 4], [3000000]⟩ laws_toTraderS_3_sv laws_toTraderS_3_so (List STrader) (Int × List STrader) laws_toTraderS_3_emb laws_toTraderS_3_prj (laws_toTraderS_3_b n)
noncomputable def laws_toTraderS_3_c : Code := ((loopCodes laws_toTraderS_code)[0]?).getD .skip
def laws_toTraderS_ann : Ann := fun id => bif Nat.beq id 3000003 then some ⟨[((.reg 3), 3000000, 114)], [3], [3000000]⟩ else none
def laws_toTraderS_Ls (n : Nat) : Nat → Option (LSpec T) := fun id => bif Nat.beq id 3 then some (laws_toTraderS_3_sp n) else none
theorem laws_toTraderS_3_le (n : Nat) : LoopEq (T := T) (Phi n 7) (laws_toTraderS_Ls n) laws_toTraderS_ann n laws_toTraderS_3_c (laws_toTraderS_3_sp n) := ⟨mkSpec_dec (fun y => rfl), fun c x => by kernel_rfl, fun K J c x => by kernel_rfl⟩
theorem laws_toTraderS_tie (n : Nat) (a0 : List STrader) : evF (T := T) (Phi n 7) (laws_toTraderS_Ls n) laws_toTraderS_ann n Try.f140 (sg 140) [vA T 83 a0] laws_toTraderS_dec = laws_toTraderS n a0 := by kernel_rfl
theorem laws_toTraderS_lo (n : Nat) : LoopsOk (T := T) (Phi n 7) (laws_toTraderS_Ls n) laws_toTraderS_ann n laws_toTraderS_code := loopsOk_all (cs := [laws_toTraderS_3_c]) (by kernel_rfl) ⟨⟨_, by kernel_rfl, laws_toTraderS_3_le n⟩, trivial⟩
theorem laws_toTraderS_ok (n : Nat) : EntOk Try.prog (ents n) (laws_toTraderS_ent n) := by
  intro hs ar y hg h
  replace h : laws_toTraderS_D n ar = some y := h
  unfold laws_toTraderS_D at h
  replace h := ocons_some h
  obtain ⟨a0, r0, rfl, h⟩ := h
  replace h := onil_some h
  obtain ⟨rfl, h⟩ := h
  obtain ⟨a0, qh0, h⟩ := obind_some h
  rw [argV_eq ok qh0]
  exact call_of (phiE_nat _ _) hs ok mixed Try.func140 (c := laws_toTraderS_code) (by kernel_rfl) (laws_toTraderS_lo n) (by kernel_rfl) (by kernel_rfl) (by kernel_rfl) laws_toTraderS_de ((laws_toTraderS_tie n a0).trans h)
noncomputable def laws_toHouse_code : Code := match Try.f50.body with | some c => c | none => .skip
def laws_toHouse_ann : Ann := fun id => none
def laws_toHouse_Ls (n : Nat) : Nat → Option (LSpec T) := fun id => none
theorem laws_toHouse_tie (n : Nat) (a0 : SHouse) : evF (T := T) (Phi n 8) (laws_toHouse_Ls n) laws_toHouse_ann n Try.f50 (sg 50) [vA T 85 a0] laws_toHouse_dec = laws_toHouse n a0 := by kernel_rfl
theorem laws_toHouse_lo (n : Nat) : LoopsOk (T := T) (Phi n 8) (laws_toHouse_Ls n) laws_toHouse_ann n laws_toHouse_code := loopsOk_all (cs := []) (by kernel_rfl) trivial
theorem laws_toHouse_ok (n : Nat) : EntOk Try.prog (ents n) (laws_toHouse_ent n) := by
  intro hs ar y hg h
  replace h : laws_toHouse_D n ar = some y := h
  unfold laws_toHouse_D at h
  replace h := ocons_some h
  obtain ⟨a0, r0, rfl, h⟩ := h
  replace h := onil_some h
  obtain ⟨rfl, h⟩ := h
  obtain ⟨a0, qh0, h⟩ := obind_some h
  rw [argV_eq ok qh0]
  exact call_of (phiE_nat _ _) hs ok mixed Try.func50 (c := laws_toHouse_code) (by kernel_rfl) (laws_toHouse_lo n) (by kernel_rfl) (by kernel_rfl) (by kernel_rfl) laws_toHouse_de ((laws_toHouse_tie n a0).trans h)
noncomputable def laws_toDeed_code : Code := match Try.f51.body with | some c => c | none => .skip
def laws_toDeed_ann : Ann := fun id => none
def laws_toDeed_Ls (n : Nat) : Nat → Option (LSpec T) := fun id => none
theorem laws_toDeed_tie (n : Nat) (a0 : SDeed) : evF (T := T) (Phi n 9) (laws_toDeed_Ls n) laws_toDeed_ann n Try.f51 (sg 51) [vA T 87 a0] laws_toDeed_dec = laws_toDeed n a0 := by kernel_rfl
theorem laws_toDeed_lo (n : Nat) : LoopsOk (T := T) (Phi n 9) (laws_toDeed_Ls n) laws_toDeed_ann n laws_toDeed_code := loopsOk_all (cs := []) (by kernel_rfl) trivial
theorem laws_toDeed_ok (n : Nat) : EntOk Try.prog (ents n) (laws_toDeed_ent n) := by
  intro hs ar y hg h
  replace h : laws_toDeed_D n ar = some y := h
  unfold laws_toDeed_D at h
  replace h := ocons_some h
  obtain ⟨a0, r0, rfl, h⟩ := h
  replace h := onil_some h
  obtain ⟨rfl, h⟩ := h
  obtain ⟨a0, qh0, h⟩ := obind_some h
  rw [argV_eq ok qh0]
  exact call_of (phiE_nat _ _) hs ok mixed Try.func51 (c := laws_toDeed_code) (by kernel_rfl) (laws_toDeed_lo n) (by kernel_rfl) (by kernel_rfl) (by kernel_rfl) laws_toDeed_de ((laws_toDeed_tie n a0).trans h)
noncomputable def laws_toDeedS_code : Code := match Try.f58.body with | some c => c | none => .skip
def laws_toDeedS_3_sv : List Sv := [.one (.arr 87), .one (.own 3000000 96 false), .one (.int .i64)]
def laws_toDeedS_3_so : List So := [.arr 96 false]
def laws_toDeedS_3_emb (c : List SDeed) (x : Int × List SDeed) : EVs T laws_toDeedS_3_sv × EOs T laws_toDeedS_3_so := ((c, (), x.1, ()), (x.2, ()))
def laws_toDeedS_3_prj (y : EVs T laws_toDeedS_3_sv × EOs T laws_toDeedS_3_so) : List SDeed × (Int × List SDeed) := ((y.1.1), (y.1.2.2.1, y.2.1))
def laws_toDeedS_3_b (n : Nat) {R : Type} (K : Ex → Sm.St T → Option R) (c : List SDeed) (x : Int × List SDeed) (J : (Int × List SDeed) → Option R) : Option R :=
  laws_toDeedS_L3 n (fun (y0 : List SDeed) => K (.exit 0) (stOf (T := T) [3] [3000000] [.one (.own 3000000 96 false)] [.arr 96 false] ((), ()) (y0, ()))) (fun z0 z1 => J (z0, z1)) c x.1 x.2
def laws_toDeedS_3_sp (n : Nat) : LSpec T := mkSpec T ⟨[((.reg 3), 3000000, 96)], [0, 3, 4], [3000000]⟩ laws_toDeedS_3_sv laws_toDeedS_3_so (List SDeed) (Int × List SDeed) laws_toDeedS_3_emb laws_toDeedS_3_prj (laws_toDeedS_3_b n)
noncomputable def laws_toDeedS_3_c : Code := ((loopCodes laws_toDeedS_code)[0]?).getD .skip
def laws_toDeedS_ann : Ann := fun id => bif Nat.beq id 3000003 then some ⟨[((.reg 3), 3000000, 96)], [3], [3000000]⟩ else none
def laws_toDeedS_Ls (n : Nat) : Nat → Option (LSpec T) := fun id => bif Nat.beq id 3 then some (laws_toDeedS_3_sp n) else none
theorem laws_toDeedS_3_le (n : Nat) : LoopEq (T := T) (Phi n 10) (laws_toDeedS_Ls n) laws_toDeedS_ann n laws_toDeedS_3_c (laws_toDeedS_3_sp n) := ⟨mkSpec_dec (fun y => rfl), fun c x => by kernel_rfl, fun K J c x => by kernel_rfl⟩
theorem laws_toDeedS_tie (n : Nat) (a0 : List SDeed) : evF (T := T) (Phi n 10) (laws_toDeedS_Ls n) laws_toDeedS_ann n Try.f58 (sg 58) [vA T 101 a0] laws_toDeedS_dec = laws_toDeedS n a0 := by kernel_rfl
theorem laws_toDeedS_lo (n : Nat) : LoopsOk (T := T) (Phi n 10) (laws_toDeedS_Ls n) laws_toDeedS_ann n laws_toDeedS_code := loopsOk_all (cs := [laws_toDeedS_3_c]) (by kernel_rfl) ⟨⟨_, by kernel_rfl, laws_toDeedS_3_le n⟩, trivial⟩
theorem laws_toDeedS_ok (n : Nat) : EntOk Try.prog (ents n) (laws_toDeedS_ent n) := by
  intro hs ar y hg h
  replace h : laws_toDeedS_D n ar = some y := h
  unfold laws_toDeedS_D at h
  replace h := ocons_some h
  obtain ⟨a0, r0, rfl, h⟩ := h
  replace h := onil_some h
  obtain ⟨rfl, h⟩ := h
  obtain ⟨a0, qh0, h⟩ := obind_some h
  rw [argV_eq ok qh0]
  exact call_of (phiE_nat _ _) hs ok mixed Try.func58 (c := laws_toDeedS_code) (by kernel_rfl) (laws_toDeedS_lo n) (by kernel_rfl) (by kernel_rfl) (by kernel_rfl) laws_toDeedS_de ((laws_toDeedS_tie n a0).trans h)
noncomputable def spec_l16Copy_code : Code := match Try.f133.body with | some c => c | none => .skip
def spec_l16Copy_ann : Ann := fun id => none
def spec_l16Copy_Ls (n : Nat) : Nat → Option (LSpec T) := fun id => none
theorem spec_l16Copy_tie (n : Nat) (h0 : SHouse) : evF (T := T) (Phi n 11) (spec_l16Copy_Ls n) spec_l16Copy_ann n Try.f133 (sg 133) [vA T 92 h0] spec_l16Copy_dec = spec_l16Copy n h0 := by kernel_rfl
theorem spec_l16Copy_lo (n : Nat) : LoopsOk (T := T) (Phi n 11) (spec_l16Copy_Ls n) spec_l16Copy_ann n spec_l16Copy_code := loopsOk_all (cs := []) (by kernel_rfl) trivial
theorem spec_l16Copy_ok (n : Nat) : EntOk Try.prog (ents n) (spec_l16Copy_ent n) := by
  intro hs ar y hg h
  replace h : spec_l16Copy_D n ar = some y := h
  unfold spec_l16Copy_D at h
  replace h := ocons_some h
  obtain ⟨a0, r0, rfl, h⟩ := h
  replace h := onil_some h
  obtain ⟨rfl, h⟩ := h
  obtain ⟨h0, qh0, h⟩ := obind_some h
  rw [argV_eq ok qh0]
  exact call_of (phiE_nat _ _) hs ok mixed Try.func133 (c := spec_l16Copy_code) (by kernel_rfl) (spec_l16Copy_lo n) (by kernel_rfl) (by kernel_rfl) (by kernel_rfl) spec_l16Copy_de ((spec_l16Copy_tie n h0).trans h)
noncomputable def spec_l1In_code : Code := match Try.f174.body with | some c => c | none => .skip
def spec_l1In_ann : Ann := fun id => none
def spec_l1In_Ls (n : Nat) : Nat → Option (LSpec T) := fun id => none
theorem spec_l1In_tie (n : Nat) (x0 : Int) (a1 : Int) (b2 : Int) : evF (T := T) (Phi n 12) (spec_l1In_Ls n) spec_l1In_ann n Try.f174 (sg 174) [vA T 3 x0, vA T 3 a1, vA T 3 b2] spec_l1In_dec = spec_l1In n x0 a1 b2 := by kernel_rfl
theorem spec_l1In_lo (n : Nat) : LoopsOk (T := T) (Phi n 12) (spec_l1In_Ls n) spec_l1In_ann n spec_l1In_code := loopsOk_all (cs := []) (by kernel_rfl) trivial
theorem spec_l1In_ok (n : Nat) : EntOk Try.prog (ents n) (spec_l1In_ent n) := by
  intro hs ar y hg h
  replace h : spec_l1In_D n ar = some y := h
  unfold spec_l1In_D at h
  replace h := ocons_some h
  obtain ⟨a0, r0, rfl, h⟩ := h
  replace h := ocons_some h
  obtain ⟨a1, r1, rfl, h⟩ := h
  replace h := ocons_some h
  obtain ⟨a2, r2, rfl, h⟩ := h
  replace h := onil_some h
  obtain ⟨rfl, h⟩ := h
  obtain ⟨x0, qh0, h⟩ := obind_some h
  obtain ⟨a1, qh1, h⟩ := obind_some h
  obtain ⟨b2, qh2, h⟩ := obind_some h
  rw [argV_eq ok qh0, argV_eq ok qh1, argV_eq ok qh2]
  exact call_of (phiE_nat _ _) hs ok mixed Try.func174 (c := spec_l1In_code) (by kernel_rfl) (spec_l1In_lo n) (by kernel_rfl) (by kernel_rfl) (by kernel_rfl) spec_l1In_de ((spec_l1In_tie n x0 a1 b2).trans h)
noncomputable def spec_Duty6_code : Code := match Try.f138.body with | some c => c | none => .skip
def spec_Duty6_ann : Ann := fun id => none
def spec_Duty6_Ls (n : Nat) : Nat → Option (LSpec T) := fun id => none
theorem spec_Duty6_tie (n : Nat) (many0 : Int) (value1 : Int) (rate2 : Int) : evF (T := T) (Phi n 13) (spec_Duty6_Ls n) spec_Duty6_ann n Try.f138 (sg 138) [vA T 3 many0, vA T 3 value1, vA T 3 rate2] spec_Duty6_dec = spec_Duty6 n many0 value1 rate2 := by kernel_rfl
theorem spec_Duty6_lo (n : Nat) : LoopsOk (T := T) (Phi n 13) (spec_Duty6_Ls n) spec_Duty6_ann n spec_Duty6_code := loopsOk_all (cs := []) (by kernel_rfl) trivial
theorem spec_Duty6_ok (n : Nat) : EntOk Try.prog (ents n) (spec_Duty6_ent n) := by
  intro hs ar y hg h
  replace h : spec_Duty6_D n ar = some y := h
  unfold spec_Duty6_D at h
  replace h := ocons_some h
  obtain ⟨a0, r0, rfl, h⟩ := h
  replace h := ocons_some h
  obtain ⟨a1, r1, rfl, h⟩ := h
  replace h := ocons_some h
  obtain ⟨a2, r2, rfl, h⟩ := h
  replace h := onil_some h
  obtain ⟨rfl, h⟩ := h
  obtain ⟨many0, qh0, h⟩ := obind_some h
  obtain ⟨value1, qh1, h⟩ := obind_some h
  obtain ⟨rate2, qh2, h⟩ := obind_some h
  rw [argV_eq ok qh0, argV_eq ok qh1, argV_eq ok qh2]
  exact call_of (phiE_nat _ _) hs ok mixed Try.func138 (c := spec_Duty6_code) (by kernel_rfl) (spec_Duty6_lo n) (by kernel_rfl) (by kernel_rfl) (by kernel_rfl) spec_Duty6_de ((spec_Duty6_tie n many0 value1 rate2).trans h)
noncomputable def spec_HouseOk_code : Code := match Try.f172.body with | some c => c | none => .skip
def spec_HouseOk_5_sv : List Sv := [.one (.ptr 8 0 0), .one (.own 3000000 3 false), .one (.int .i64)]
def spec_HouseOk_5_so : List So := [.var [.arr 116, .arr 114, .int .i64], .arr 3 false]
def spec_HouseOk_5_emb (c : SHouse) (x : Int × List Int) : EVs T spec_HouseOk_5_sv × EOs T spec_HouseOk_5_so := (((), (), x.1, ()), ((c.Lots, c.Traders, c.Taken, ()), x.2, ()))
def spec_HouseOk_5_prj (y : EVs T spec_HouseOk_5_sv × EOs T spec_HouseOk_5_so) : SHouse × (Int × List Int) := ((((⟨y.2.1.1, y.2.1.2.1, y.2.1.2.2.1⟩ : SHouse) : SHouse)), (y.1.2.2.1, y.2.2.1))
def spec_HouseOk_5_b (n : Nat) {R : Type} (K : Ex → Sm.St T → Option R) (c : SHouse) (x : Int × List Int) (J : (Int × List Int) → Option R) : Option R :=
  spec_HouseOk_L5 n (fun (y1 : List Int) => K (.exit 0) (stOf (T := T) [1, 3] [8, 3000000] [.one (.ptr 8 0 0), .one (.own 3000000 3 false)] [.var [.arr 116, .arr 114, .int .i64], .arr 3 false] ((), (), ()) ((c.Lots, c.Traders, c.Taken, ()), y1, ()))) (fun (y0 : Bool) => K .ret (stOf (T := T) [2] [] [.one (.bool)] [] (y0, ()) ())) (fun z0 z1 => J (z0, z1)) x.1 c x.2
def spec_HouseOk_5_sp (n : Nat) : LSpec T := mkSpec T ⟨[((.reg 3), 3000000, 3)], [1, 3, 4], [8, 3000000]⟩ spec_HouseOk_5_sv spec_HouseOk_5_so (SHouse) (Int × List Int) spec_HouseOk_5_emb spec_HouseOk_5_prj (spec_HouseOk_5_b n)
noncomputable def spec_HouseOk_5_c : Code := ((loopCodes spec_HouseOk_code)[0]?).getD .skip
def spec_HouseOk_17_sv : List Sv := [.one (.ptr 8 0 0), .one (.own 3000000 3 false), .one (.int .i64)]
def spec_HouseOk_17_so : List So := [.var [.arr 116, .arr 114, .int .i64], .arr 3 false]
def spec_HouseOk_17_emb (c : SHouse × List Int) (x : Int) : EVs T spec_HouseOk_17_sv × EOs T spec_HouseOk_17_so := (((), (), x, ()), ((c.1.Lots, c.1.Traders, c.1.Taken, ()), c.2, ()))
def spec_HouseOk_17_prj (y : EVs T spec_HouseOk_17_sv × EOs T spec_HouseOk_17_so) : (SHouse × List Int) × Int := ((((⟨y.2.1.1, y.2.1.2.1, y.2.1.2.2.1⟩ : SHouse) : SHouse), y.2.2.1), (y.1.2.2.1))
def spec_HouseOk_17_b (n : Nat) {R : Type} (K : Ex → Sm.St T → Option R) (c : SHouse × List Int) (x : Int) (J : Int → Option R) : Option R :=
  spec_HouseOk_L17 n (K (.exit 2) (stOf (T := T) [] [] [] [] () ())) (fun (y0 : Bool) => K .ret (stOf (T := T) [2] [] [.one (.bool)] [] (y0, ()) ())) J x c.1 c.2
def spec_HouseOk_17_sp (n : Nat) : LSpec T := mkSpec T ⟨[((.reg 3), 3000000, 3)], [1, 3, 8], [8, 3000000]⟩ spec_HouseOk_17_sv spec_HouseOk_17_so (SHouse × List Int) (Int) spec_HouseOk_17_emb spec_HouseOk_17_prj (spec_HouseOk_17_b n)
noncomputable def spec_HouseOk_17_c : Code := ((loopCodes spec_HouseOk_code)[1]?).getD .skip
def spec_HouseOk_ann : Ann := fun id => bif Nat.beq id 3000005 then some ⟨[((.reg 3), 3000000, 3)], [1, 3], [8, 3000000]⟩ else bif Nat.beq id 2000005 then some ⟨[], [2], []⟩ else bif Nat.beq id 5000017 then some ⟨[], [], []⟩ else bif Nat.beq id 2000017 then some ⟨[], [2], []⟩ else none
def spec_HouseOk_Ls (n : Nat) : Nat → Option (LSpec T) := fun id => bif Nat.beq id 5 then some (spec_HouseOk_5_sp n) else bif Nat.beq id 17 then some (spec_HouseOk_17_sp n) else none
theorem spec_HouseOk_5_le (n : Nat) : LoopEq (T := T) (Phi n 14) (spec_HouseOk_Ls n) spec_HouseOk_ann n spec_HouseOk_5_c (spec_HouseOk_5_sp n) := ⟨mkSpec_dec (fun y => rfl), fun c x => by kernel_rfl, fun K J c x => by kernel_rfl⟩
theorem spec_HouseOk_17_le (n : Nat) : LoopEq (T := T) (Phi n 14) (spec_HouseOk_Ls n) spec_HouseOk_ann n spec_HouseOk_17_c (spec_HouseOk_17_sp n) := ⟨mkSpec_dec (fun y => rfl), fun c x => by kernel_rfl, fun K J c x => by kernel_rfl⟩
theorem spec_HouseOk_tie (n : Nat) (h0 : SHouse) : evF (T := T) (Phi n 14) (spec_HouseOk_Ls n) spec_HouseOk_ann n Try.f172 (sg 172) [vA T 92 h0] spec_HouseOk_dec = spec_HouseOk n h0 := by kernel_rfl
theorem spec_HouseOk_lo (n : Nat) : LoopsOk (T := T) (Phi n 14) (spec_HouseOk_Ls n) spec_HouseOk_ann n spec_HouseOk_code := loopsOk_all (cs := [spec_HouseOk_5_c, spec_HouseOk_17_c]) (by kernel_rfl) ⟨⟨_, by kernel_rfl, spec_HouseOk_5_le n⟩, ⟨_, by kernel_rfl, spec_HouseOk_17_le n⟩, trivial⟩
theorem spec_HouseOk_ok (n : Nat) : EntOk Try.prog (ents n) (spec_HouseOk_ent n) := by
  intro hs ar y hg h
  replace h : spec_HouseOk_D n ar = some y := h
  unfold spec_HouseOk_D at h
  replace h := ocons_some h
  obtain ⟨a0, r0, rfl, h⟩ := h
  replace h := onil_some h
  obtain ⟨rfl, h⟩ := h
  obtain ⟨h0, qh0, h⟩ := obind_some h
  rw [argV_eq ok qh0]
  exact call_of (phiE_nat _ _) hs ok mixed Try.func172 (c := spec_HouseOk_code) (by kernel_rfl) (spec_HouseOk_lo n) (by kernel_rfl) (by kernel_rfl) (by kernel_rfl) spec_HouseOk_de ((spec_HouseOk_tie n h0).trans h)
noncomputable def spec_l16Bad_code : Code := match Try.f134.body with | some c => c | none => .skip
def spec_l16Bad_ann : Ann := fun id => none
def spec_l16Bad_Ls (n : Nat) : Nat → Option (LSpec T) := fun id => none
theorem spec_l16Bad_tie (n : Nat) (h0 : SHouse) (d1 : SDeed) : evF (T := T) (Phi n 15) (spec_l16Bad_Ls n) spec_l16Bad_ann n Try.f134 (sg 134) [vA T 92 h0, vA T 96 d1] spec_l16Bad_dec = spec_l16Bad n h0 d1 := by kernel_rfl
theorem spec_l16Bad_lo (n : Nat) : LoopsOk (T := T) (Phi n 15) (spec_l16Bad_Ls n) spec_l16Bad_ann n spec_l16Bad_code := loopsOk_all (cs := []) (by kernel_rfl) trivial
theorem spec_l16Bad_ok (n : Nat) : EntOk Try.prog (ents n) (spec_l16Bad_ent n) := by
  intro hs ar y hg h
  replace h : spec_l16Bad_D n ar = some y := h
  unfold spec_l16Bad_D at h
  replace h := ocons_some h
  obtain ⟨a0, r0, rfl, h⟩ := h
  replace h := ocons_some h
  obtain ⟨a1, r1, rfl, h⟩ := h
  replace h := onil_some h
  obtain ⟨rfl, h⟩ := h
  obtain ⟨h0, qh0, h⟩ := obind_some h
  obtain ⟨d1, qh1, h⟩ := obind_some h
  rw [argV_eq ok qh0, argV_eq ok qh1]
  exact call_of (phiE_nat _ _) hs ok mixed Try.func134 (c := spec_l16Bad_code) (by kernel_rfl) (spec_l16Bad_lo n) (by kernel_rfl) (by kernel_rfl) (by kernel_rfl) spec_l16Bad_de ((spec_l16Bad_tie n h0 d1).trans h)
noncomputable def spec_l16Find_code : Code := match Try.f135.body with | some c => c | none => .skip
def spec_l16Find_2_sv : List Sv := [.one (.int .i64), .one (.ptr 16 0 0), .one (.int .i64)]
def spec_l16Find_2_so : List So := [.var [.arr 116, .arr 114, .int .i64]]
def spec_l16Find_2_emb (c : Int × SHouse) (x : Int) : EVs T spec_l16Find_2_sv × EOs T spec_l16Find_2_so := ((c.1, (), x, ()), ((c.2.Lots, c.2.Traders, c.2.Taken, ()), ()))
def spec_l16Find_2_prj (y : EVs T spec_l16Find_2_sv × EOs T spec_l16Find_2_so) : (Int × SHouse) × Int := ((y.1.1, ((⟨y.2.1.1, y.2.1.2.1, y.2.1.2.2.1⟩ : SHouse) : SHouse)), (y.1.2.2.1))
def spec_l16Find_2_b (n : Nat) {R : Type} (K : Ex → Sm.St T → Option R) (c : Int × SHouse) (x : Int) (J : Int → Option R) : Option R :=
  spec_l16Find_L2 n (K (.exit 0) (stOf (T := T) [] [] [] [] () ())) (fun (y0 : Int) => K .ret (stOf (T := T) [4] [] [.one (.int .i64)] [] (y0, ()) ())) J c.1 x c.2
def spec_l16Find_2_sp (n : Nat) : LSpec T := mkSpec T ⟨[], [1, 2, 5], [16]⟩ spec_l16Find_2_sv spec_l16Find_2_so (Int × SHouse) (Int) spec_l16Find_2_emb spec_l16Find_2_prj (spec_l16Find_2_b n)
noncomputable def spec_l16Find_2_c : Code := ((loopCodes spec_l16Find_code)[0]?).getD .skip
def spec_l16Find_ann : Ann := fun id => bif Nat.beq id 3000002 then some ⟨[], [], []⟩ else bif Nat.beq id 2000002 then some ⟨[], [4], []⟩ else none
def spec_l16Find_Ls (n : Nat) : Nat → Option (LSpec T) := fun id => bif Nat.beq id 2 then some (spec_l16Find_2_sp n) else none
theorem spec_l16Find_2_le (n : Nat) : LoopEq (T := T) (Phi n 16) (spec_l16Find_Ls n) spec_l16Find_ann n spec_l16Find_2_c (spec_l16Find_2_sp n) := ⟨mkSpec_dec (fun y => rfl), fun c x => by kernel_rfl, fun K J c x => by kernel_rfl⟩
theorem spec_l16Find_tie (n : Nat) (h0 : SHouse) (id1 : Int) : evF (T := T) (Phi n 16) (spec_l16Find_Ls n) spec_l16Find_ann n Try.f135 (sg 135) [vA T 92 h0, vA T 3 id1] spec_l16Find_dec = spec_l16Find n h0 id1 := by kernel_rfl
theorem spec_l16Find_lo (n : Nat) : LoopsOk (T := T) (Phi n 16) (spec_l16Find_Ls n) spec_l16Find_ann n spec_l16Find_code := loopsOk_all (cs := [spec_l16Find_2_c]) (by kernel_rfl) ⟨⟨_, by kernel_rfl, spec_l16Find_2_le n⟩, trivial⟩
theorem spec_l16Find_ok (n : Nat) : EntOk Try.prog (ents n) (spec_l16Find_ent n) := by
  intro hs ar y hg h
  replace h : spec_l16Find_D n ar = some y := h
  unfold spec_l16Find_D at h
  replace h := ocons_some h
  obtain ⟨a0, r0, rfl, h⟩ := h
  replace h := ocons_some h
  obtain ⟨a1, r1, rfl, h⟩ := h
  replace h := onil_some h
  obtain ⟨rfl, h⟩ := h
  obtain ⟨h0, qh0, h⟩ := obind_some h
  obtain ⟨id1, qh1, h⟩ := obind_some h
  rw [argV_eq ok qh0, argV_eq ok qh1]
  exact call_of (phiE_nat _ _) hs ok mixed Try.func135 (c := spec_l16Find_code) (by kernel_rfl) (spec_l16Find_lo n) (by kernel_rfl) (by kernel_rfl) (by kernel_rfl) spec_l16Find_de ((spec_l16Find_tie n h0 id1).trans h)
noncomputable def spec_l16With_code : Code := match Try.f136.body with | some c => c | none => .skip
def spec_l16With_2_sv : List Sv := [.one (.ptr 16 0 0), .one (.ptr 24 0 0), .one (.ptr 32 0 0), .one (.int .i64)]
def spec_l16With_2_so : List So := [.var [.own 3000000 116 false, .own 3000001 114 false, .int .i64], .arr 116 false, .arr 114 false, .var [.int .i64, .int .i64, .int .i64, .int .i64, .int .i64, .int .i64, .int .i64], .var [.own 3000002 116 false, .own 3000003 114 false, .int .i64], .arr 116 false, .arr 114 false]
def spec_l16With_2_emb (c : Int × List SLot × List STrader × SLot × Int × List SLot × List STrader) (x : Int) : EVs T spec_l16With_2_sv × EOs T spec_l16With_2_so := (((), (), (), x, ()), (((), (), c.1, ()), c.2.1, c.2.2.1, (c.2.2.2.1.Id, c.2.2.2.1.Owner, c.2.2.2.1.Many, c.2.2.2.1.Value, c.2.2.2.1.Rate, c.2.2.2.1.State, c.2.2.2.1.Bond, ()), ((), (), c.2.2.2.2.1, ()), c.2.2.2.2.2.1, c.2.2.2.2.2.2, ()))
def spec_l16With_2_prj (y : EVs T spec_l16With_2_sv × EOs T spec_l16With_2_so) : (Int × List SLot × List STrader × SLot × Int × List SLot × List STrader) × Int := ((y.2.1.2.2.1, y.2.2.1, y.2.2.2.1, ((⟨y.2.2.2.2.1.1, y.2.2.2.2.1.2.1, y.2.2.2.2.1.2.2.1, y.2.2.2.2.1.2.2.2.1, y.2.2.2.2.1.2.2.2.2.1, y.2.2.2.2.1.2.2.2.2.2.1, y.2.2.2.2.1.2.2.2.2.2.2.1⟩ : SLot) : SLot), y.2.2.2.2.2.1.2.2.1, y.2.2.2.2.2.2.1, y.2.2.2.2.2.2.2.1), (y.1.2.2.2.1))
def spec_l16With_2_b (n : Nat) {R : Type} (K : Ex → Sm.St T → Option R) (c : Int × List SLot × List STrader × SLot × Int × List SLot × List STrader) (x : Int) (J : Int → Option R) : Option R :=
  spec_l16With_L2 n (fun (y0 : Int) => K (.exit 0) (stOf (T := T) [2, 3, 4, 5] [16, 3000000, 3000001, 24, 32, 3000002, 3000003] [.one (.ptr 16 0 0), .one (.ptr 24 0 0), .one (.ptr 32 0 0), .one (.int .i64)] [.var [.own 3000000 116 false, .own 3000001 114 false, .int .i64], .arr 116 false, .arr 114 false, .var [.int .i64, .int .i64, .int .i64, .int .i64, .int .i64, .int .i64, .int .i64], .var [.own 3000002 116 false, .own 3000003 114 false, .int .i64], .arr 116 false, .arr 114 false] ((), (), (), y0, ()) (((), (), c.1, ()), c.2.1, c.2.2.1, (c.2.2.2.1.Id, c.2.2.2.1.Owner, c.2.2.2.1.Many, c.2.2.2.1.Value, c.2.2.2.1.Rate, c.2.2.2.1.State, c.2.2.2.1.Bond, ()), ((), (), c.2.2.2.2.1, ()), c.2.2.2.2.2.1, c.2.2.2.2.2.2, ()))) J x c.1 c.2.1 c.2.2.1 c.2.2.2.1 c.2.2.2.2.1 c.2.2.2.2.2.1 c.2.2.2.2.2.2
def spec_l16With_2_sp (n : Nat) : LSpec T := mkSpec T ⟨[((.cell 16 0), 3000000, 116), ((.cell 16 1), 3000001, 114), ((.cell 32 0), 3000002, 116), ((.cell 32 1), 3000003, 114)], [2, 3, 4, 5], [16, 3000000, 3000001, 24, 32, 3000002, 3000003]⟩ spec_l16With_2_sv spec_l16With_2_so (Int × List SLot × List STrader × SLot × Int × List SLot × List STrader) (Int) spec_l16With_2_emb spec_l16With_2_prj (spec_l16With_2_b n)
noncomputable def spec_l16With_2_c : Code := ((loopCodes spec_l16With_code)[0]?).getD .skip
def spec_l16With_ann : Ann := fun id => bif Nat.beq id 3000002 then some ⟨[((.cell 16 0), 3000000, 116), ((.cell 16 1), 3000001, 114), ((.cell 32 0), 3000002, 116), ((.cell 32 1), 3000003, 114)], [2, 3, 4, 5], [16, 3000000, 3000001, 24, 32, 3000002, 3000003]⟩ else none
def spec_l16With_Ls (n : Nat) : Nat → Option (LSpec T) := fun id => bif Nat.beq id 2 then some (spec_l16With_2_sp n) else none
theorem spec_l16With_2_le (n : Nat) : LoopEq (T := T) (Phi n 17) (spec_l16With_Ls n) spec_l16With_ann n spec_l16With_2_c (spec_l16With_2_sp n) := ⟨mkSpec_dec (fun y => rfl), fun c x => by kernel_rfl, fun K J c x => by kernel_rfl⟩
theorem spec_l16With_tie (n : Nat) (h0 : SHouse) (x1 : SLot) : evF (T := T) (Phi n 17) (spec_l16With_Ls n) spec_l16With_ann n Try.f136 (sg 136) [vA T 92 h0, vA T 116 x1] spec_l16With_dec = spec_l16With n h0 x1 := by kernel_rfl
theorem spec_l16With_lo (n : Nat) : LoopsOk (T := T) (Phi n 17) (spec_l16With_Ls n) spec_l16With_ann n spec_l16With_code := loopsOk_all (cs := [spec_l16With_2_c]) (by kernel_rfl) ⟨⟨_, by kernel_rfl, spec_l16With_2_le n⟩, trivial⟩
theorem spec_l16With_ok (n : Nat) : EntOk Try.prog (ents n) (spec_l16With_ent n) := by
  intro hs ar y hg h
  replace h : spec_l16With_D n ar = some y := h
  unfold spec_l16With_D at h
  replace h := ocons_some h
  obtain ⟨a0, r0, rfl, h⟩ := h
  replace h := ocons_some h
  obtain ⟨a1, r1, rfl, h⟩ := h
  replace h := onil_some h
  obtain ⟨rfl, h⟩ := h
  obtain ⟨h0, qh0, h⟩ := obind_some h
  obtain ⟨x1, qh1, h⟩ := obind_some h
  rw [argV_eq ok qh0, argV_eq ok qh1]
  exact call_of (phiE_nat _ _) hs ok mixed Try.func136 (c := spec_l16With_code) (by kernel_rfl) (spec_l16With_lo n) (by kernel_rfl) (by kernel_rfl) (by kernel_rfl) spec_l16With_de ((spec_l16With_tie n h0 x1).trans h)
noncomputable def spec_l16From_code : Code := match Try.f137.body with | some c => c | none => .skip
def spec_l16From_ann : Ann := fun id => none
def spec_l16From_Ls (n : Nat) : Nat → Option (LSpec T) := fun id => none
theorem spec_l16From_tie (n : Nat) (kind0 : Int) : evF (T := T) (Phi n 18) (spec_l16From_Ls n) spec_l16From_ann n Try.f137 (sg 137) [vA T 3 kind0] spec_l16From_dec = spec_l16From n kind0 := by kernel_rfl
theorem spec_l16From_lo (n : Nat) : LoopsOk (T := T) (Phi n 18) (spec_l16From_Ls n) spec_l16From_ann n spec_l16From_code := loopsOk_all (cs := []) (by kernel_rfl) trivial
theorem spec_l16From_ok (n : Nat) : EntOk Try.prog (ents n) (spec_l16From_ent n) := by
  intro hs ar y hg h
  replace h : spec_l16From_D n ar = some y := h
  unfold spec_l16From_D at h
  replace h := ocons_some h
  obtain ⟨a0, r0, rfl, h⟩ := h
  replace h := onil_some h
  obtain ⟨rfl, h⟩ := h
  obtain ⟨kind0, qh0, h⟩ := obind_some h
  rw [argV_eq ok qh0]
  exact call_of (phiE_nat _ _) hs ok mixed Try.func137 (c := spec_l16From_code) (by kernel_rfl) (spec_l16From_lo n) (by kernel_rfl) (by kernel_rfl) (by kernel_rfl) spec_l16From_de ((spec_l16From_tie n kind0).trans h)
noncomputable def spec_DoDeed_code : Code := match Try.f49.body with | some c => c | none => .skip
def spec_DoDeed_ann : Ann := fun id => none
def spec_DoDeed_Ls (n : Nat) : Nat → Option (LSpec T) := fun id => none
theorem spec_DoDeed_tie (n : Nat) (h0 : SHouse) (d1 : SDeed) : evF (T := T) (Phi n 19) (spec_DoDeed_Ls n) spec_DoDeed_ann n Try.f49 (sg 49) [vA T 92 h0, vA T 96 d1] spec_DoDeed_dec = spec_DoDeed n h0 d1 := by kernel_rfl
theorem spec_DoDeed_lo (n : Nat) : LoopsOk (T := T) (Phi n 19) (spec_DoDeed_Ls n) spec_DoDeed_ann n spec_DoDeed_code := loopsOk_all (cs := []) (by kernel_rfl) trivial
theorem spec_DoDeed_ok (n : Nat) : EntOk Try.prog (ents n) (spec_DoDeed_ent n) := by
  intro hs ar y hg h
  replace h : spec_DoDeed_D n ar = some y := h
  unfold spec_DoDeed_D at h
  replace h := ocons_some h
  obtain ⟨a0, r0, rfl, h⟩ := h
  replace h := ocons_some h
  obtain ⟨a1, r1, rfl, h⟩ := h
  replace h := onil_some h
  obtain ⟨rfl, h⟩ := h
  obtain ⟨h0, qh0, h⟩ := obind_some h
  obtain ⟨d1, qh1, h⟩ := obind_some h
  rw [argV_eq ok qh0, argV_eq ok qh1]
  exact call_of (phiE_nat _ _) hs ok mixed Try.func49 (c := spec_DoDeed_code) (by kernel_rfl) (spec_DoDeed_lo n) (by kernel_rfl) (by kernel_rfl) (by kernel_rfl) spec_DoDeed_de ((spec_DoDeed_tie n h0 d1).trans h)
noncomputable def spec_RunDeeds_code : Code := match Try.f57.body with | some c => c | none => .skip
def spec_RunDeeds_4_sv : List Sv := [.one (.arr 96), .one (.ptr 32 0 0), .one (.ptr 48 0 0), .one (.own 3000000 3 false), .one (.int .i64)]
def spec_RunDeeds_4_so : List So := [.var [.own 3000001 116 false, .own 3000002 114 false, .int .i64], .arr 116 false, .arr 114 false, .var [.own 3000003 116 false, .own 3000004 114 false, .int .i64], .arr 116 false, .arr 114 false, .arr 3 false]
def spec_RunDeeds_4_emb (c : List SDeed × Int × List SLot × List STrader) (x : Int × Int × List SLot × List STrader × List Int) : EVs T spec_RunDeeds_4_sv × EOs T spec_RunDeeds_4_so := ((c.1, (), (), (), x.1, ()), (((), (), c.2.1, ()), c.2.2.1, c.2.2.2, ((), (), x.2.1, ()), x.2.2.1, x.2.2.2.1, x.2.2.2.2, ()))
def spec_RunDeeds_4_prj (y : EVs T spec_RunDeeds_4_sv × EOs T spec_RunDeeds_4_so) : (List SDeed × Int × List SLot × List STrader) × (Int × Int × List SLot × List STrader × List Int) := ((y.1.1, y.2.1.2.2.1, y.2.2.1, y.2.2.2.1), (y.1.2.2.2.2.1, y.2.2.2.2.1.2.2.1, y.2.2.2.2.2.1, y.2.2.2.2.2.2.1, y.2.2.2.2.2.2.2.1))
def spec_RunDeeds_4_b (n : Nat) {R : Type} (K : Ex → Sm.St T → Option R) (c : List SDeed × Int × List SLot × List STrader) (x : Int × Int × List SLot × List STrader × List Int) (J : (Int × Int × List SLot × List STrader × List Int) → Option R) : Option R :=
  spec_RunDeeds_L4 n (fun (y3 : Int) (y4 : List SLot) (y5 : List STrader) (y6 : List Int) => K (.exit 0) (stOf (T := T) [4, 6, 7] [32, 3000001, 3000002, 48, 3000003, 3000004, 3000000] [.one (.ptr 32 0 0), .one (.ptr 48 0 0), .one (.own 3000000 3 false)] [.var [.own 3000001 116 false, .own 3000002 114 false, .int .i64], .arr 116 false, .arr 114 false, .var [.own 3000003 116 false, .own 3000004 114 false, .int .i64], .arr 116 false, .arr 114 false, .arr 3 false] ((), (), (), ()) (((), (), c.2.1, ()), c.2.2.1, c.2.2.2, ((), (), y3, ()), y4, y5, y6, ()))) (fun z0 z1 z2 z3 z4 => J (z0, z1, z2, z3, z4)) c.1 x.1 c.2.1 c.2.2.1 c.2.2.2 x.2.1 x.2.2.1 x.2.2.2.1 x.2.2.2.2
def spec_RunDeeds_4_sp (n : Nat) : LSpec T := mkSpec T ⟨[((.reg 7), 3000000, 3), ((.cell 32 0), 3000001, 116), ((.cell 32 1), 3000002, 114), ((.cell 48 0), 3000003, 116), ((.cell 48 1), 3000004, 114)], [1, 4, 6, 7, 8], [32, 3000001, 3000002, 48, 3000003, 3000004, 3000000]⟩ spec_RunDeeds_4_sv spec_RunDeeds_4_so (List SDeed × Int × List SLot × List STrader) (Int × Int × List SLot × List STrader × List Int) spec_RunDeeds_4_emb spec_RunDeeds_4_prj (spec_RunDeeds_4_b n)
noncomputable def spec_RunDeeds_4_c : Code := ((loopCodes spec_RunDeeds_code)[0]?).getD .skip
def spec_RunDeeds_ann : Ann := fun id => bif Nat.beq id 3000004 then some ⟨[((.reg 7), 3000000, 3), ((.cell 32 0), 3000001, 116), ((.cell 32 1), 3000002, 114), ((.cell 48 0), 3000003, 116), ((.cell 48 1), 3000004, 114)], [4, 6, 7], [32, 3000001, 3000002, 48, 3000003, 3000004, 3000000]⟩ else none
def spec_RunDeeds_Ls (n : Nat) : Nat → Option (LSpec T) := fun id => bif Nat.beq id 4 then some (spec_RunDeeds_4_sp n) else none
theorem spec_RunDeeds_4_le (n : Nat) : LoopEq (T := T) (Phi n 20) (spec_RunDeeds_Ls n) spec_RunDeeds_ann n spec_RunDeeds_4_c (spec_RunDeeds_4_sp n) := ⟨mkSpec_dec (fun y => rfl), fun c x => by kernel_rfl, fun K J c x => by kernel_rfl⟩
theorem spec_RunDeeds_tie (n : Nat) (h0 : SHouse) (list1 : List SDeed) : evF (T := T) (Phi n 20) (spec_RunDeeds_Ls n) spec_RunDeeds_ann n Try.f57 (sg 57) [vA T 92 h0, vA T 105 list1] spec_RunDeeds_dec = spec_RunDeeds n h0 list1 := by kernel_rfl
theorem spec_RunDeeds_lo (n : Nat) : LoopsOk (T := T) (Phi n 20) (spec_RunDeeds_Ls n) spec_RunDeeds_ann n spec_RunDeeds_code := loopsOk_all (cs := [spec_RunDeeds_4_c]) (by kernel_rfl) ⟨⟨_, by kernel_rfl, spec_RunDeeds_4_le n⟩, trivial⟩
theorem spec_RunDeeds_ok (n : Nat) : EntOk Try.prog (ents n) (spec_RunDeeds_ent n) := by
  intro hs ar y hg h
  replace h : spec_RunDeeds_D n ar = some y := h
  unfold spec_RunDeeds_D at h
  replace h := ocons_some h
  obtain ⟨a0, r0, rfl, h⟩ := h
  replace h := ocons_some h
  obtain ⟨a1, r1, rfl, h⟩ := h
  replace h := onil_some h
  obtain ⟨rfl, h⟩ := h
  obtain ⟨h0, qh0, h⟩ := obind_some h
  obtain ⟨list1, qh1, h⟩ := obind_some h
  rw [argV_eq ok qh0, argV_eq ok qh1]
  exact call_of (phiE_nat _ _) hs ok mixed Try.func57 (c := spec_RunDeeds_code) (by kernel_rfl) (spec_RunDeeds_lo n) (by kernel_rfl) (by kernel_rfl) (by kernel_rfl) spec_RunDeeds_de ((spec_RunDeeds_tie n h0 list1).trans h)
noncomputable def impl_own_impl_Lot_code : Code := match Try.f201.body with | some c => c | none => .skip
def impl_own_impl_Lot_ann : Ann := fun id => none
def impl_own_impl_Lot_Ls (n : Nat) : Nat → Option (LSpec T) := fun id => none
theorem impl_own_impl_Lot_tie (n : Nat) (l0 : List SLot) : evF (T := T) (Phi n 21) (impl_own_impl_Lot_Ls n) impl_own_impl_Lot_ann n Try.f201 (sg 201) [vA T 89 l0] impl_own_impl_Lot_dec = impl_own_impl_Lot n l0 := by kernel_rfl
theorem impl_own_impl_Lot_lo (n : Nat) : LoopsOk (T := T) (Phi n 21) (impl_own_impl_Lot_Ls n) impl_own_impl_Lot_ann n impl_own_impl_Lot_code := loopsOk_all (cs := []) (by kernel_rfl) trivial
theorem impl_own_impl_Lot_ok (n : Nat) : EntOk Try.prog (ents n) (impl_own_impl_Lot_ent n) := by
  intro hs ar y hg h
  replace h : impl_own_impl_Lot_D n ar = some y := h
  unfold impl_own_impl_Lot_D at h
  replace h := ocons_some h
  obtain ⟨a0, r0, rfl, h⟩ := h
  replace h := onil_some h
  obtain ⟨rfl, h⟩ := h
  obtain ⟨l0, qh0, h⟩ := obind_some h
  rw [argV_eq ok qh0]
  exact call_of (phiE_nat _ _) hs ok mixed Try.func201 (c := impl_own_impl_Lot_code) (by kernel_rfl) (impl_own_impl_Lot_lo n) (by kernel_rfl) (by kernel_rfl) (by kernel_rfl) impl_own_impl_Lot_de ((impl_own_impl_Lot_tie n l0).trans h)
noncomputable def impl_own_impl_Trader_code : Code := match Try.f202.body with | some c => c | none => .skip
def impl_own_impl_Trader_ann : Ann := fun id => none
def impl_own_impl_Trader_Ls (n : Nat) : Nat → Option (LSpec T) := fun id => none
theorem impl_own_impl_Trader_tie (n : Nat) (l0 : List STrader) : evF (T := T) (Phi n 22) (impl_own_impl_Trader_Ls n) impl_own_impl_Trader_ann n Try.f202 (sg 202) [vA T 90 l0] impl_own_impl_Trader_dec = impl_own_impl_Trader n l0 := by kernel_rfl
theorem impl_own_impl_Trader_lo (n : Nat) : LoopsOk (T := T) (Phi n 22) (impl_own_impl_Trader_Ls n) impl_own_impl_Trader_ann n impl_own_impl_Trader_code := loopsOk_all (cs := []) (by kernel_rfl) trivial
theorem impl_own_impl_Trader_ok (n : Nat) : EntOk Try.prog (ents n) (impl_own_impl_Trader_ent n) := by
  intro hs ar y hg h
  replace h : impl_own_impl_Trader_D n ar = some y := h
  unfold impl_own_impl_Trader_D at h
  replace h := ocons_some h
  obtain ⟨a0, r0, rfl, h⟩ := h
  replace h := onil_some h
  obtain ⟨rfl, h⟩ := h
  obtain ⟨l0, qh0, h⟩ := obind_some h
  rw [argV_eq ok qh0]
  exact call_of (phiE_nat _ _) hs ok mixed Try.func202 (c := impl_own_impl_Trader_code) (by kernel_rfl) (impl_own_impl_Trader_lo n) (by kernel_rfl) (by kernel_rfl) (by kernel_rfl) impl_own_impl_Trader_de ((impl_own_impl_Trader_tie n l0).trans h)
noncomputable def impl_House_own_code : Code := match Try.f141.body with | some c => c | none => .skip
def impl_House_own_ann : Ann := fun id => none
def impl_House_own_Ls (n : Nat) : Nat → Option (LSpec T) := fun id => none
theorem impl_House_own_tie (n : Nat) (h0 : SHouse) : evF (T := T) (Phi n 23) (impl_House_own_Ls n) impl_House_own_ann n Try.f141 (sg 141) [vA T 92 h0] impl_House_own_dec = impl_House_own n h0 := by kernel_rfl
theorem impl_House_own_lo (n : Nat) : LoopsOk (T := T) (Phi n 23) (impl_House_own_Ls n) impl_House_own_ann n impl_House_own_code := loopsOk_all (cs := []) (by kernel_rfl) trivial
theorem impl_House_own_ok (n : Nat) : EntOk Try.prog (ents n) (impl_House_own_ent n) := by
  intro hs ar y hg h
  replace h : impl_House_own_D n ar = some y := h
  unfold impl_House_own_D at h
  replace h := ocons_some h
  obtain ⟨a0, r0, rfl, h⟩ := h
  replace h := onil_some h
  obtain ⟨rfl, h⟩ := h
  obtain ⟨h0, qh0, h⟩ := obind_some h
  rw [argV_eq ok qh0]
  exact call_of (phiE_nat _ _) hs ok mixed Try.func141 (c := impl_House_own_code) (by kernel_rfl) (impl_House_own_lo n) (by kernel_rfl) (by kernel_rfl) (by kernel_rfl) impl_House_own_de ((impl_House_own_tie n h0).trans h)
noncomputable def impl_in_code : Code := match Try.f101.body with | some c => c | none => .skip
def impl_in_ann : Ann := fun id => none
def impl_in_Ls (n : Nat) : Nat → Option (LSpec T) := fun id => none
theorem impl_in_tie (n : Nat) (n0 : Int) (least1 : Int) (most2 : Int) : evF (T := T) (Phi n 24) (impl_in_Ls n) impl_in_ann n Try.f101 (sg 101) [vA T 3 n0, vA T 3 least1, vA T 3 most2] impl_in_dec = impl_in n n0 least1 most2 := by kernel_rfl
theorem impl_in_lo (n : Nat) : LoopsOk (T := T) (Phi n 24) (impl_in_Ls n) impl_in_ann n impl_in_code := loopsOk_all (cs := []) (by kernel_rfl) trivial
theorem impl_in_ok (n : Nat) : EntOk Try.prog (ents n) (impl_in_ent n) := by
  intro hs ar y hg h
  replace h : impl_in_D n ar = some y := h
  unfold impl_in_D at h
  replace h := ocons_some h
  obtain ⟨a0, r0, rfl, h⟩ := h
  replace h := ocons_some h
  obtain ⟨a1, r1, rfl, h⟩ := h
  replace h := ocons_some h
  obtain ⟨a2, r2, rfl, h⟩ := h
  replace h := onil_some h
  obtain ⟨rfl, h⟩ := h
  obtain ⟨n0, qh0, h⟩ := obind_some h
  obtain ⟨least1, qh1, h⟩ := obind_some h
  obtain ⟨most2, qh2, h⟩ := obind_some h
  rw [argV_eq ok qh0, argV_eq ok qh1, argV_eq ok qh2]
  exact call_of (phiE_nat _ _) hs ok mixed Try.func101 (c := impl_in_code) (by kernel_rfl) (impl_in_lo n) (by kernel_rfl) (by kernel_rfl) (by kernel_rfl) impl_in_de ((impl_in_tie n n0 least1 most2).trans h)
noncomputable def impl_idRight_code : Code := match Try.f102.body with | some c => c | none => .skip
def impl_idRight_ann : Ann := fun id => none
def impl_idRight_Ls (n : Nat) : Nat → Option (LSpec T) := fun id => none
theorem impl_idRight_tie (n : Nat) (n0 : Int) : evF (T := T) (Phi n 25) (impl_idRight_Ls n) impl_idRight_ann n Try.f102 (sg 102) [vA T 3 n0] impl_idRight_dec = impl_idRight n n0 := by kernel_rfl
theorem impl_idRight_lo (n : Nat) : LoopsOk (T := T) (Phi n 25) (impl_idRight_Ls n) impl_idRight_ann n impl_idRight_code := loopsOk_all (cs := []) (by kernel_rfl) trivial
theorem impl_idRight_ok (n : Nat) : EntOk Try.prog (ents n) (impl_idRight_ent n) := by
  intro hs ar y hg h
  replace h : impl_idRight_D n ar = some y := h
  unfold impl_idRight_D at h
  replace h := ocons_some h
  obtain ⟨a0, r0, rfl, h⟩ := h
  replace h := onil_some h
  obtain ⟨rfl, h⟩ := h
  obtain ⟨n0, qh0, h⟩ := obind_some h
  rw [argV_eq ok qh0]
  exact call_of (phiE_nat _ _) hs ok mixed Try.func102 (c := impl_idRight_code) (by kernel_rfl) (impl_idRight_lo n) (by kernel_rfl) (by kernel_rfl) (by kernel_rfl) impl_idRight_de ((impl_idRight_tie n n0).trans h)
noncomputable def impl_lotRight_code : Code := match Try.f142.body with | some c => c | none => .skip
def impl_lotRight_ann : Ann := fun id => none
def impl_lotRight_Ls (n : Nat) : Nat → Option (LSpec T) := fun id => none
theorem impl_lotRight_tie (n : Nat) (many0 : Int) (value1 : Int) (rate2 : Int) : evF (T := T) (Phi n 26) (impl_lotRight_Ls n) impl_lotRight_ann n Try.f142 (sg 142) [vA T 3 many0, vA T 3 value1, vA T 3 rate2] impl_lotRight_dec = impl_lotRight n many0 value1 rate2 := by kernel_rfl
theorem impl_lotRight_lo (n : Nat) : LoopsOk (T := T) (Phi n 26) (impl_lotRight_Ls n) impl_lotRight_ann n impl_lotRight_code := loopsOk_all (cs := []) (by kernel_rfl) trivial
theorem impl_lotRight_ok (n : Nat) : EntOk Try.prog (ents n) (impl_lotRight_ent n) := by
  intro hs ar y hg h
  replace h : impl_lotRight_D n ar = some y := h
  unfold impl_lotRight_D at h
  replace h := ocons_some h
  obtain ⟨a0, r0, rfl, h⟩ := h
  replace h := ocons_some h
  obtain ⟨a1, r1, rfl, h⟩ := h
  replace h := ocons_some h
  obtain ⟨a2, r2, rfl, h⟩ := h
  replace h := onil_some h
  obtain ⟨rfl, h⟩ := h
  obtain ⟨many0, qh0, h⟩ := obind_some h
  obtain ⟨value1, qh1, h⟩ := obind_some h
  obtain ⟨rate2, qh2, h⟩ := obind_some h
  rw [argV_eq ok qh0, argV_eq ok qh1, argV_eq ok qh2]
  exact call_of (phiE_nat _ _) hs ok mixed Try.func142 (c := impl_lotRight_code) (by kernel_rfl) (impl_lotRight_lo n) (by kernel_rfl) (by kernel_rfl) (by kernel_rfl) impl_lotRight_de ((impl_lotRight_tie n many0 value1 rate2).trans h)
noncomputable def impl_Duty6_code : Code := match Try.f64.body with | some c => c | none => .skip
def impl_Duty6_ann : Ann := fun id => none
def impl_Duty6_Ls (n : Nat) : Nat → Option (LSpec T) := fun id => none
theorem impl_Duty6_tie (n : Nat) (many0 : Int) (value1 : Int) (rate2 : Int) : evF (T := T) (Phi n 27) (impl_Duty6_Ls n) impl_Duty6_ann n Try.f64 (sg 64) [vA T 3 many0, vA T 3 value1, vA T 3 rate2] impl_Duty6_dec = impl_Duty6 n many0 value1 rate2 := by kernel_rfl
theorem impl_Duty6_lo (n : Nat) : LoopsOk (T := T) (Phi n 27) (impl_Duty6_Ls n) impl_Duty6_ann n impl_Duty6_code := loopsOk_all (cs := []) (by kernel_rfl) trivial
theorem impl_Duty6_ok (n : Nat) : EntOk Try.prog (ents n) (impl_Duty6_ent n) := by
  intro hs ar y hg h
  replace h : impl_Duty6_D n ar = some y := h
  unfold impl_Duty6_D at h
  replace h := ocons_some h
  obtain ⟨a0, r0, rfl, h⟩ := h
  replace h := ocons_some h
  obtain ⟨a1, r1, rfl, h⟩ := h
  replace h := ocons_some h
  obtain ⟨a2, r2, rfl, h⟩ := h
  replace h := onil_some h
  obtain ⟨rfl, h⟩ := h
  obtain ⟨many0, qh0, h⟩ := obind_some h
  obtain ⟨value1, qh1, h⟩ := obind_some h
  obtain ⟨rate2, qh2, h⟩ := obind_some h
  rw [argV_eq ok qh0, argV_eq ok qh1, argV_eq ok qh2]
  exact call_of (phiE_nat _ _) hs ok mixed Try.func64 (c := impl_Duty6_code) (by kernel_rfl) (impl_Duty6_lo n) (by kernel_rfl) (by kernel_rfl) (by kernel_rfl) impl_Duty6_de ((impl_Duty6_tie n many0 value1 rate2).trans h)
noncomputable def impl_Lot_duty_code : Code := match Try.f146.body with | some c => c | none => .skip
def impl_Lot_duty_ann : Ann := fun id => none
def impl_Lot_duty_Ls (n : Nat) : Nat → Option (LSpec T) := fun id => none
theorem impl_Lot_duty_tie (n : Nat) (l0 : SLot) : evF (T := T) (Phi n 28) (impl_Lot_duty_Ls n) impl_Lot_duty_ann n Try.f146 (sg 146) [vA T 116 l0] impl_Lot_duty_dec = impl_Lot_duty n l0 := by kernel_rfl
theorem impl_Lot_duty_lo (n : Nat) : LoopsOk (T := T) (Phi n 28) (impl_Lot_duty_Ls n) impl_Lot_duty_ann n impl_Lot_duty_code := loopsOk_all (cs := []) (by kernel_rfl) trivial
theorem impl_Lot_duty_ok (n : Nat) : EntOk Try.prog (ents n) (impl_Lot_duty_ent n) := by
  intro hs ar y hg h
  replace h : impl_Lot_duty_D n ar = some y := h
  unfold impl_Lot_duty_D at h
  replace h := ocons_some h
  obtain ⟨a0, r0, rfl, h⟩ := h
  replace h := onil_some h
  obtain ⟨rfl, h⟩ := h
  obtain ⟨l0, qh0, h⟩ := obind_some h
  rw [argV_eq ok qh0]
  exact call_of (phiE_nat _ _) hs ok mixed Try.func146 (c := impl_Lot_duty_code) (by kernel_rfl) (impl_Lot_duty_lo n) (by kernel_rfl) (by kernel_rfl) (by kernel_rfl) impl_Lot_duty_de ((impl_Lot_duty_tie n l0).trans h)
noncomputable def impl_HouseOk_code : Code := match Try.f63.body with | some c => c | none => .skip
def impl_HouseOk_5_sv : List Sv := [.one (.ptr 8 0 0), .one (.own 3000000 3 false), .one (.arr 116), .one (.int .i64), .one (.int .i64)]
def impl_HouseOk_5_so : List So := [.var [.arr 116, .arr 114, .int .i64], .arr 3 false]
def impl_HouseOk_5_emb (c : List SLot × Int × SHouse) (x : Int × List Int) : EVs T impl_HouseOk_5_sv × EOs T impl_HouseOk_5_so := (((), (), c.1, c.2.1, x.1, ()), ((c.2.2.Lots, c.2.2.Traders, c.2.2.Taken, ()), x.2, ()))
def impl_HouseOk_5_prj (y : EVs T impl_HouseOk_5_sv × EOs T impl_HouseOk_5_so) : (List SLot × Int × SHouse) × (Int × List Int) := ((y.1.2.2.1, y.1.2.2.2.1, ((⟨y.2.1.1, y.2.1.2.1, y.2.1.2.2.1⟩ : SHouse) : SHouse)), (y.1.2.2.2.2.1, y.2.2.1))
def impl_HouseOk_5_b (n : Nat) {R : Type} (K : Ex → Sm.St T → Option R) (c : List SLot × Int × SHouse) (x : Int × List Int) (J : (Int × List Int) → Option R) : Option R :=
  impl_HouseOk_L5 n (fun (y1 : List Int) => K (.exit 0) (stOf (T := T) [1, 3] [8, 3000000] [.one (.ptr 8 0 0), .one (.own 3000000 3 false)] [.var [.arr 116, .arr 114, .int .i64], .arr 3 false] ((), (), ()) ((c.2.2.Lots, c.2.2.Traders, c.2.2.Taken, ()), y1, ()))) (fun (y0 : Bool) => K .ret (stOf (T := T) [2] [] [.one (.bool)] [] (y0, ()) ())) (fun z0 z1 => J (z0, z1)) c.1 c.2.1 x.1 c.2.2 x.2
def impl_HouseOk_5_sp (n : Nat) : LSpec T := mkSpec T ⟨[((.reg 3), 3000000, 3)], [1, 3, 30, 31, 32], [8, 3000000]⟩ impl_HouseOk_5_sv impl_HouseOk_5_so (List SLot × Int × SHouse) (Int × List Int) impl_HouseOk_5_emb impl_HouseOk_5_prj (impl_HouseOk_5_b n)
noncomputable def impl_HouseOk_5_c : Code := ((loopCodes impl_HouseOk_code)[0]?).getD .skip
def impl_HouseOk_17_sv : List Sv := [.one (.own 3000000 3 false), .one (.arr 114), .one (.int .i64), .one (.int .i64)]
def impl_HouseOk_17_so : List So := [.arr 3 false]
def impl_HouseOk_17_emb (c : List STrader × Int × List Int) (x : Int) : EVs T impl_HouseOk_17_sv × EOs T impl_HouseOk_17_so := (((), c.1, c.2.1, x, ()), (c.2.2, ()))
def impl_HouseOk_17_prj (y : EVs T impl_HouseOk_17_sv × EOs T impl_HouseOk_17_so) : (List STrader × Int × List Int) × Int := ((y.1.2.1, y.1.2.2.1, y.2.1), (y.1.2.2.2.1))
def impl_HouseOk_17_b (n : Nat) {R : Type} (K : Ex → Sm.St T → Option R) (c : List STrader × Int × List Int) (x : Int) (J : Int → Option R) : Option R :=
  impl_HouseOk_L17 n (K (.exit 2) (stOf (T := T) [] [] [] [] () ())) (fun (y0 : Bool) => K .ret (stOf (T := T) [2] [] [.one (.bool)] [] (y0, ()) ())) J c.1 c.2.1 x c.2.2
def impl_HouseOk_17_sp (n : Nat) : LSpec T := mkSpec T ⟨[((.reg 3), 3000000, 3)], [3, 103, 104, 105], [3000000]⟩ impl_HouseOk_17_sv impl_HouseOk_17_so (List STrader × Int × List Int) (Int) impl_HouseOk_17_emb impl_HouseOk_17_prj (impl_HouseOk_17_b n)
noncomputable def impl_HouseOk_17_c : Code := ((loopCodes impl_HouseOk_code)[1]?).getD .skip
def impl_HouseOk_ann : Ann := fun id => bif Nat.beq id 3000005 then some ⟨[((.reg 3), 3000000, 3)], [1, 3], [8, 3000000]⟩ else bif Nat.beq id 2000005 then some ⟨[], [2], []⟩ else bif Nat.beq id 5000017 then some ⟨[], [], []⟩ else bif Nat.beq id 2000017 then some ⟨[], [2], []⟩ else none
def impl_HouseOk_Ls (n : Nat) : Nat → Option (LSpec T) := fun id => bif Nat.beq id 5 then some (impl_HouseOk_5_sp n) else bif Nat.beq id 17 then some (impl_HouseOk_17_sp n) else none
theorem impl_HouseOk_5_le (n : Nat) : LoopEq (T := T) (Phi n 29) (impl_HouseOk_Ls n) impl_HouseOk_ann n impl_HouseOk_5_c (impl_HouseOk_5_sp n) := ⟨mkSpec_dec (fun y => rfl), fun c x => by kernel_rfl, fun K J c x => by kernel_rfl⟩
theorem impl_HouseOk_17_le (n : Nat) : LoopEq (T := T) (Phi n 29) (impl_HouseOk_Ls n) impl_HouseOk_ann n impl_HouseOk_17_c (impl_HouseOk_17_sp n) := ⟨mkSpec_dec (fun y => rfl), fun c x => by kernel_rfl, fun K J c x => by kernel_rfl⟩
theorem impl_HouseOk_tie (n : Nat) (h0 : SHouse) : evF (T := T) (Phi n 29) (impl_HouseOk_Ls n) impl_HouseOk_ann n Try.f63 (sg 63) [vA T 92 h0] impl_HouseOk_dec = impl_HouseOk n h0 := by kernel_rfl
theorem impl_HouseOk_lo (n : Nat) : LoopsOk (T := T) (Phi n 29) (impl_HouseOk_Ls n) impl_HouseOk_ann n impl_HouseOk_code := loopsOk_all (cs := [impl_HouseOk_5_c, impl_HouseOk_17_c]) (by kernel_rfl) ⟨⟨_, by kernel_rfl, impl_HouseOk_5_le n⟩, ⟨_, by kernel_rfl, impl_HouseOk_17_le n⟩, trivial⟩
theorem impl_HouseOk_ok (n : Nat) : EntOk Try.prog (ents n) (impl_HouseOk_ent n) := by
  intro hs ar y hg h
  replace h : impl_HouseOk_D n ar = some y := h
  unfold impl_HouseOk_D at h
  replace h := ocons_some h
  obtain ⟨a0, r0, rfl, h⟩ := h
  replace h := onil_some h
  obtain ⟨rfl, h⟩ := h
  obtain ⟨h0, qh0, h⟩ := obind_some h
  rw [argV_eq ok qh0]
  exact call_of (phiE_nat _ _) hs ok mixed Try.func63 (c := impl_HouseOk_code) (by kernel_rfl) (impl_HouseOk_lo n) (by kernel_rfl) (by kernel_rfl) (by kernel_rfl) impl_HouseOk_de ((impl_HouseOk_tie n h0).trans h)
noncomputable def impl_House_lot_1_code : Code := match Try.f204.body with | some c => c | none => .skip
def impl_House_lot_1_ann : Ann := fun id => none
def impl_House_lot_1_Ls (n : Nat) : Nat → Option (LSpec T) := fun id => none
theorem impl_House_lot_1_tie (n : Nat) (l0 : SLot) (a1 : Int) : evF (T := T) (Phi n 30) (impl_House_lot_1_Ls n) impl_House_lot_1_ann n Try.f204 (sg 204) [vA T 116 l0, .ptr 3 a1] impl_House_lot_1_dec = impl_House_lot_1 n l0 a1 := by kernel_rfl
theorem impl_House_lot_1_lo (n : Nat) : LoopsOk (T := T) (Phi n 30) (impl_House_lot_1_Ls n) impl_House_lot_1_ann n impl_House_lot_1_code := loopsOk_all (cs := []) (by kernel_rfl) trivial
theorem impl_House_lot_1_ok (n : Nat) : EntOk Try.prog (ents n) (impl_House_lot_1_ent n) := by
  intro hs ar y hg h
  replace h : impl_House_lot_1_D n ar = some y := h
  unfold impl_House_lot_1_D at h
  replace h := ocons_some h
  obtain ⟨a0, r0, rfl, h⟩ := h
  replace h := ocons_some h
  obtain ⟨a1, r1, rfl, h⟩ := h
  replace h := onil_some h
  obtain ⟨rfl, h⟩ := h
  obtain ⟨l0, qh0, h⟩ := obind_some h
  obtain ⟨a1, qh1, h⟩ := obind_some h
  rw [argV_eq ok qh0, argP_eq qh1]
  exact call_of (phiE_nat _ _) hs ok mixed Try.func204 (c := impl_House_lot_1_code) (by kernel_rfl) (impl_House_lot_1_lo n) (by kernel_rfl) (by kernel_rfl) (by kernel_rfl) impl_House_lot_1_de ((impl_House_lot_1_tie n l0 a1).trans h)
noncomputable def slices_IndexFunc_impl_Lot_impl_Lot__impl_House_lot_1_code : Code := match Try.f203.body with | some c => c | none => .skip
def slices_IndexFunc_impl_Lot_impl_Lot__impl_House_lot_1_2_sv : List Sv := [.one (.arr 116), .one (.fnr 204 [3]), .one (.int .i64), .one (.int .i64)]
def slices_IndexFunc_impl_Lot_impl_Lot__impl_House_lot_1_2_so : List So := []
def slices_IndexFunc_impl_Lot_impl_Lot__impl_House_lot_1_2_emb (c : List SLot × Int × Int) (x : Int) : EVs T slices_IndexFunc_impl_Lot_impl_Lot__impl_House_lot_1_2_sv × EOs T slices_IndexFunc_impl_Lot_impl_Lot__impl_House_lot_1_2_so := ((c.1, (c.2.1, ()), c.2.2, x, ()), ())
def slices_IndexFunc_impl_Lot_impl_Lot__impl_House_lot_1_2_prj (y : EVs T slices_IndexFunc_impl_Lot_impl_Lot__impl_House_lot_1_2_sv × EOs T slices_IndexFunc_impl_Lot_impl_Lot__impl_House_lot_1_2_so) : (List SLot × Int × Int) × Int := ((y.1.1, y.1.2.1.1, y.1.2.2.1), (y.1.2.2.2.1))
def slices_IndexFunc_impl_Lot_impl_Lot__impl_House_lot_1_2_b (n : Nat) {R : Type} (K : Ex → Sm.St T → Option R) (c : List SLot × Int × Int) (x : Int) (J : Int → Option R) : Option R :=
  slices_IndexFunc_impl_Lot_impl_Lot__impl_House_lot_1_L2 n (K (.exit 0) (stOf (T := T) [] [] [] [] () ())) (fun (y0 : Int) => K .ret (stOf (T := T) [4] [] [.one (.int .i64)] [] (y0, ()) ())) J c.1 c.2.1 c.2.2 x
def slices_IndexFunc_impl_Lot_impl_Lot__impl_House_lot_1_2_sp (n : Nat) : LSpec T := mkSpec T ⟨[], [0, 1, 7, 8], []⟩ slices_IndexFunc_impl_Lot_impl_Lot__impl_House_lot_1_2_sv slices_IndexFunc_impl_Lot_impl_Lot__impl_House_lot_1_2_so (List SLot × Int × Int) (Int) slices_IndexFunc_impl_Lot_impl_Lot__impl_House_lot_1_2_emb slices_IndexFunc_impl_Lot_impl_Lot__impl_House_lot_1_2_prj (slices_IndexFunc_impl_Lot_impl_Lot__impl_House_lot_1_2_b n)
noncomputable def slices_IndexFunc_impl_Lot_impl_Lot__impl_House_lot_1_2_c : Code := ((loopCodes slices_IndexFunc_impl_Lot_impl_Lot__impl_House_lot_1_code)[0]?).getD .skip
def slices_IndexFunc_impl_Lot_impl_Lot__impl_House_lot_1_ann : Ann := fun id => bif Nat.beq id 3000002 then some ⟨[], [], []⟩ else bif Nat.beq id 2000002 then some ⟨[], [4], []⟩ else none
def slices_IndexFunc_impl_Lot_impl_Lot__impl_House_lot_1_Ls (n : Nat) : Nat → Option (LSpec T) := fun id => bif Nat.beq id 2 then some (slices_IndexFunc_impl_Lot_impl_Lot__impl_House_lot_1_2_sp n) else none
theorem slices_IndexFunc_impl_Lot_impl_Lot__impl_House_lot_1_2_le (n : Nat) : LoopEq (T := T) (Phi n 31) (slices_IndexFunc_impl_Lot_impl_Lot__impl_House_lot_1_Ls n) slices_IndexFunc_impl_Lot_impl_Lot__impl_House_lot_1_ann n slices_IndexFunc_impl_Lot_impl_Lot__impl_House_lot_1_2_c (slices_IndexFunc_impl_Lot_impl_Lot__impl_House_lot_1_2_sp n) := ⟨mkSpec_dec (fun y => rfl), fun c x => by kernel_rfl, fun K J c x => by kernel_rfl⟩
theorem slices_IndexFunc_impl_Lot_impl_Lot__impl_House_lot_1_tie (n : Nat) (s0 : List SLot) (f1c0 : Int) : evF (T := T) (Phi n 31) (slices_IndexFunc_impl_Lot_impl_Lot__impl_House_lot_1_Ls n) slices_IndexFunc_impl_Lot_impl_Lot__impl_House_lot_1_ann n Try.f203 (sg 203) [vA T 89 s0, .fn 204 [.ptr 3 f1c0]] slices_IndexFunc_impl_Lot_impl_Lot__impl_House_lot_1_dec = slices_IndexFunc_impl_Lot_impl_Lot__impl_House_lot_1 n s0 f1c0 := by kernel_rfl
theorem slices_IndexFunc_impl_Lot_impl_Lot__impl_House_lot_1_lo (n : Nat) : LoopsOk (T := T) (Phi n 31) (slices_IndexFunc_impl_Lot_impl_Lot__impl_House_lot_1_Ls n) slices_IndexFunc_impl_Lot_impl_Lot__impl_House_lot_1_ann n slices_IndexFunc_impl_Lot_impl_Lot__impl_House_lot_1_code := loopsOk_all (cs := [slices_IndexFunc_impl_Lot_impl_Lot__impl_House_lot_1_2_c]) (by kernel_rfl) ⟨⟨_, by kernel_rfl, slices_IndexFunc_impl_Lot_impl_Lot__impl_House_lot_1_2_le n⟩, trivial⟩
theorem slices_IndexFunc_impl_Lot_impl_Lot__impl_House_lot_1_ok (n : Nat) : EntOk Try.prog (ents n) (slices_IndexFunc_impl_Lot_impl_Lot__impl_House_lot_1_ent n) := by
  intro hs ar y hg h
  replace h : slices_IndexFunc_impl_Lot_impl_Lot__impl_House_lot_1_D n ar = some y := h
  unfold slices_IndexFunc_impl_Lot_impl_Lot__impl_House_lot_1_D at h
  split at h
  · obtain ⟨s0, qh0, h⟩ := obind_some h
    obtain ⟨f1c0, qh1, h⟩ := obind_some h
    rw [argV_eq ok qh0, argP_eq qh1] at hg ⊢
    cases (show [_] = [204] from natsEq_eq hg)
    exact call_of (phiE_nat _ _) hs ok mixed Try.func203 (c := slices_IndexFunc_impl_Lot_impl_Lot__impl_House_lot_1_code) (by kernel_rfl) (slices_IndexFunc_impl_Lot_impl_Lot__impl_House_lot_1_lo n) (by kernel_rfl) (by kernel_rfl) (by kernel_rfl) slices_IndexFunc_impl_Lot_impl_Lot__impl_House_lot_1_de ((slices_IndexFunc_impl_Lot_impl_Lot__impl_House_lot_1_tie n s0 f1c0).trans h)
  · cases h
noncomputable def impl_House_lot_code : Code := match Try.f144.body with | some c => c | none => .skip
def impl_House_lot_ann : Ann := fun id => none
def impl_House_lot_Ls (n : Nat) : Nat → Option (LSpec T) := fun id => none
theorem impl_House_lot_tie (n : Nat) (h0 : SHouse) (id1 : Int) : evF (T := T) (Phi n 32) (impl_House_lot_Ls n) impl_House_lot_ann n Try.f144 (sg 144) [vA T 92 h0, vA T 3 id1] impl_House_lot_dec = impl_House_lot n h0 id1 := by kernel_rfl
theorem impl_House_lot_lo (n : Nat) : LoopsOk (T := T) (Phi n 32) (impl_House_lot_Ls n) impl_House_lot_ann n impl_House_lot_code := loopsOk_all (cs := []) (by kernel_rfl) trivial
theorem impl_House_lot_ok (n : Nat) : EntOk Try.prog (ents n) (impl_House_lot_ent n) := by
  intro hs ar y hg h
  replace h : impl_House_lot_D n ar = some y := h
  unfold impl_House_lot_D at h
  replace h := ocons_some h
  obtain ⟨a0, r0, rfl, h⟩ := h
  replace h := ocons_some h
  obtain ⟨a1, r1, rfl, h⟩ := h
  replace h := onil_some h
  obtain ⟨rfl, h⟩ := h
  obtain ⟨h0, qh0, h⟩ := obind_some h
  obtain ⟨id1, qh1, h⟩ := obind_some h
  rw [argV_eq ok qh0, argV_eq ok qh1]
  exact call_of (phiE_nat _ _) hs ok mixed Try.func144 (c := impl_House_lot_code) (by kernel_rfl) (impl_House_lot_lo n) (by kernel_rfl) (by kernel_rfl) (by kernel_rfl) impl_House_lot_de ((impl_House_lot_tie n h0 id1).trans h)
noncomputable def impl_DoDeed_1_code : Code := match Try.f143.body with | some c => c | none => .skip
def impl_DoDeed_1_ann : Ann := fun id => none
def impl_DoDeed_1_Ls (n : Nat) : Nat → Option (LSpec T) := fun id => none
theorem impl_DoDeed_1_tie (n : Nat) (id0 : Int) (a1 : SHouse) : evF (T := T) (Phi n 33) (impl_DoDeed_1_Ls n) impl_DoDeed_1_ann n Try.f143 (sg 143) [vA T 3 id0, .ptr 92 a1] impl_DoDeed_1_dec = impl_DoDeed_1 n id0 a1 := by kernel_rfl
theorem impl_DoDeed_1_lo (n : Nat) : LoopsOk (T := T) (Phi n 33) (impl_DoDeed_1_Ls n) impl_DoDeed_1_ann n impl_DoDeed_1_code := loopsOk_all (cs := []) (by kernel_rfl) trivial
theorem impl_DoDeed_1_ok (n : Nat) : EntOk Try.prog (ents n) (impl_DoDeed_1_ent n) := by
  intro hs ar y hg h
  replace h : impl_DoDeed_1_D n ar = some y := h
  unfold impl_DoDeed_1_D at h
  replace h := ocons_some h
  obtain ⟨a0, r0, rfl, h⟩ := h
  replace h := ocons_some h
  obtain ⟨a1, r1, rfl, h⟩ := h
  replace h := onil_some h
  obtain ⟨rfl, h⟩ := h
  obtain ⟨id0, qh0, h⟩ := obind_some h
  obtain ⟨a1, qh1, h⟩ := obind_some h
  rw [argV_eq ok qh0, argP_eq qh1]
  exact call_of (phiE_nat _ _) hs ok mixed Try.func143 (c := impl_DoDeed_1_code) (by kernel_rfl) (impl_DoDeed_1_lo n) (by kernel_rfl) (by kernel_rfl) (by kernel_rfl) impl_DoDeed_1_de ((impl_DoDeed_1_tie n id0 a1).trans h)
noncomputable def impl_House_put_1_code : Code := match Try.f206.body with | some c => c | none => .skip
def impl_House_put_1_ann : Ann := fun id => none
def impl_House_put_1_Ls (n : Nat) : Nat → Option (LSpec T) := fun id => none
theorem impl_House_put_1_tie (n : Nat) (a0 : SLot) (b1 : SLot) : evF (T := T) (Phi n 34) (impl_House_put_1_Ls n) impl_House_put_1_ann n Try.f206 (sg 206) [vA T 116 a0, vA T 116 b1] impl_House_put_1_dec = impl_House_put_1 n a0 b1 := by kernel_rfl
theorem impl_House_put_1_lo (n : Nat) : LoopsOk (T := T) (Phi n 34) (impl_House_put_1_Ls n) impl_House_put_1_ann n impl_House_put_1_code := loopsOk_all (cs := []) (by kernel_rfl) trivial
theorem impl_House_put_1_ok (n : Nat) : EntOk Try.prog (ents n) (impl_House_put_1_ent n) := by
  intro hs ar y hg h
  replace h : impl_House_put_1_D n ar = some y := h
  unfold impl_House_put_1_D at h
  replace h := ocons_some h
  obtain ⟨a0, r0, rfl, h⟩ := h
  replace h := ocons_some h
  obtain ⟨a1, r1, rfl, h⟩ := h
  replace h := onil_some h
  obtain ⟨rfl, h⟩ := h
  obtain ⟨a0, qh0, h⟩ := obind_some h
  obtain ⟨b1, qh1, h⟩ := obind_some h
  rw [argV_eq ok qh0, argV_eq ok qh1]
  exact call_of (phiE_nat _ _) hs ok mixed Try.func206 (c := impl_House_put_1_code) (by kernel_rfl) (impl_House_put_1_lo n) (by kernel_rfl) (by kernel_rfl) (by kernel_rfl) impl_House_put_1_de ((impl_House_put_1_tie n a0 b1).trans h)
theorem slices_SortFunc_impl_Lot_impl_Lot__impl_House_put_1_cl (n : Nat) (x y : U 116) : PhiE (T := T) (ents n) 35 206 [vA T 116 x, vA T 116 y] some = (impl_House_put_1 n x y).bind fun r => some (impl_House_put_1_enc r) := by kernel_rfl
theorem slices_SortFunc_impl_Lot_impl_Lot__impl_House_put_1_ok (n : Nat) : EntOk Try.prog (ents n) (slices_SortFunc_impl_Lot_impl_Lot__impl_House_put_1_ent n) := by
  intro hs ar y hg h
  replace h : slices_SortFunc_impl_Lot_impl_Lot__impl_House_put_1_D n ar = some y := h
  unfold slices_SortFunc_impl_Lot_impl_Lot__impl_House_put_1_D at h
  split at h
  · obtain ⟨l0, qh0, h⟩ := obind_some h
    rw [argV_eq ok qh0] at hg ⊢
    cases (show [_] = [206] from natsEq_eq hg)
    refine sortL_call ok lay205 (e := 116) (g := 206) (caps := []) (by kernel_rfl) (by kernel_rfl) (by decide) (by kernel_rfl) (by kernel_rfl) (by kernel_rfl) (by kernel_rfl) (fun x y c hc => ?_) h
    have h1 : PhiE (T := T) (ents n) 35 206 [vA T 116 x, vA T 116 y] some = some (impl_House_put_1_enc c) := (slices_SortFunc_impl_Lot_impl_Lot__impl_House_put_1_cl n x y).trans (by rw [show impl_House_put_1 n x y = some c from hc]; rfl)
    obtain ⟨res, h2, h3⟩ := hs _ _ _ _ h1
    cases h3
    exact h2
  · cases h
noncomputable def impl_House_put_code : Code := match Try.f145.body with | some c => c | none => .skip
def impl_House_put_ann : Ann := fun id => none
def impl_House_put_Ls (n : Nat) : Nat → Option (LSpec T) := fun id => none
theorem impl_House_put_tie (n : Nat) (h0 : SHouse) (l1 : SLot) : evF (T := T) (Phi n 36) (impl_House_put_Ls n) impl_House_put_ann n Try.f145 (sg 145) [.ptr 92 h0, vA T 116 l1] impl_House_put_dec = impl_House_put n h0 l1 := by kernel_rfl
theorem impl_House_put_lo (n : Nat) : LoopsOk (T := T) (Phi n 36) (impl_House_put_Ls n) impl_House_put_ann n impl_House_put_code := loopsOk_all (cs := []) (by kernel_rfl) trivial
theorem impl_House_put_ok (n : Nat) : EntOk Try.prog (ents n) (impl_House_put_ent n) := by
  intro hs ar y hg h
  replace h : impl_House_put_D n ar = some y := h
  unfold impl_House_put_D at h
  replace h := ocons_some h
  obtain ⟨a0, r0, rfl, h⟩ := h
  replace h := ocons_some h
  obtain ⟨a1, r1, rfl, h⟩ := h
  replace h := onil_some h
  obtain ⟨rfl, h⟩ := h
  obtain ⟨h0, qh0, h⟩ := obind_some h
  obtain ⟨l1, qh1, h⟩ := obind_some h
  rw [argP_eq qh0, argV_eq ok qh1]
  exact call_of (phiE_nat _ _) hs ok mixed Try.func145 (c := impl_House_put_code) (by kernel_rfl) (impl_House_put_lo n) (by kernel_rfl) (by kernel_rfl) (by kernel_rfl) impl_House_put_de ((impl_House_put_tie n h0 l1).trans h)
noncomputable def impl_DoDeed_code : Code := match Try.f52.body with | some c => c | none => .skip
def impl_DoDeed_ann : Ann := fun id => none
def impl_DoDeed_Ls (n : Nat) : Nat → Option (LSpec T) := fun id => none
theorem impl_DoDeed_tie (n : Nat) (h0 : SHouse) (d1 : SDeed) : evF (T := T) (Phi n 37) (impl_DoDeed_Ls n) impl_DoDeed_ann n Try.f52 (sg 52) [vA T 92 h0, vA T 96 d1] impl_DoDeed_dec = impl_DoDeed n h0 d1 := by kernel_rfl
theorem impl_DoDeed_lo (n : Nat) : LoopsOk (T := T) (Phi n 37) (impl_DoDeed_Ls n) impl_DoDeed_ann n impl_DoDeed_code := loopsOk_all (cs := []) (by kernel_rfl) trivial
theorem impl_DoDeed_ok (n : Nat) : EntOk Try.prog (ents n) (impl_DoDeed_ent n) := by
  intro hs ar y hg h
  replace h : impl_DoDeed_D n ar = some y := h
  unfold impl_DoDeed_D at h
  replace h := ocons_some h
  obtain ⟨a0, r0, rfl, h⟩ := h
  replace h := ocons_some h
  obtain ⟨a1, r1, rfl, h⟩ := h
  replace h := onil_some h
  obtain ⟨rfl, h⟩ := h
  obtain ⟨h0, qh0, h⟩ := obind_some h
  obtain ⟨d1, qh1, h⟩ := obind_some h
  rw [argV_eq ok qh0, argV_eq ok qh1]
  exact call_of (phiE_nat _ _) hs ok mixed Try.func52 (c := impl_DoDeed_code) (by kernel_rfl) (impl_DoDeed_lo n) (by kernel_rfl) (by kernel_rfl) (by kernel_rfl) impl_DoDeed_de ((impl_DoDeed_tie n h0 d1).trans h)
noncomputable def impl_own_int_code : Code := match Try.f104.body with | some c => c | none => .skip
def impl_own_int_ann : Ann := fun id => none
def impl_own_int_Ls (n : Nat) : Nat → Option (LSpec T) := fun id => none
theorem impl_own_int_tie (n : Nat) (l0 : List Int) : evF (T := T) (Phi n 38) (impl_own_int_Ls n) impl_own_int_ann n Try.f104 (sg 104) [vA T 23 l0] impl_own_int_dec = impl_own_int n l0 := by kernel_rfl
theorem impl_own_int_lo (n : Nat) : LoopsOk (T := T) (Phi n 38) (impl_own_int_Ls n) impl_own_int_ann n impl_own_int_code := loopsOk_all (cs := []) (by kernel_rfl) trivial
theorem impl_own_int_ok (n : Nat) : EntOk Try.prog (ents n) (impl_own_int_ent n) := by
  intro hs ar y hg h
  replace h : impl_own_int_D n ar = some y := h
  unfold impl_own_int_D at h
  replace h := ocons_some h
  obtain ⟨a0, r0, rfl, h⟩ := h
  replace h := onil_some h
  obtain ⟨rfl, h⟩ := h
  obtain ⟨l0, qh0, h⟩ := obind_some h
  rw [argV_eq ok qh0]
  exact call_of (phiE_nat _ _) hs ok mixed Try.func104 (c := impl_own_int_code) (by kernel_rfl) (impl_own_int_lo n) (by kernel_rfl) (by kernel_rfl) (by kernel_rfl) impl_own_int_de ((impl_own_int_tie n l0).trans h)
noncomputable def impl_RunDeeds_code : Code := match Try.f59.body with | some c => c | none => .skip
def impl_RunDeeds_6_sv : List Sv := [.one (.ptr 16 0 0), .one (.ptr 32 0 0), .one (.own 3000000 3 false), .one (.arr 96), .one (.int .i64), .one (.int .i64)]
def impl_RunDeeds_6_so : List So := [.var [.own 3000001 116 false, .own 3000002 114 false, .int .i64], .arr 116 false, .arr 114 false, .var [.own 3000003 116 false, .own 3000004 114 false, .int .i64], .arr 116 false, .arr 114 false, .arr 3 false]
def impl_RunDeeds_6_emb (c : List SDeed × Int × Int × List SLot × List STrader) (x : Int × Int × List SLot × List STrader × List Int) : EVs T impl_RunDeeds_6_sv × EOs T impl_RunDeeds_6_so := (((), (), (), c.1, c.2.1, x.1, ()), (((), (), x.2.1, ()), x.2.2.1, x.2.2.2.1, ((), (), c.2.2.1, ()), c.2.2.2.1, c.2.2.2.2, x.2.2.2.2, ()))
def impl_RunDeeds_6_prj (y : EVs T impl_RunDeeds_6_sv × EOs T impl_RunDeeds_6_so) : (List SDeed × Int × Int × List SLot × List STrader) × (Int × Int × List SLot × List STrader × List Int) := ((y.1.2.2.2.1, y.1.2.2.2.2.1, y.2.2.2.2.1.2.2.1, y.2.2.2.2.2.1, y.2.2.2.2.2.2.1), (y.1.2.2.2.2.2.1, y.2.1.2.2.1, y.2.2.1, y.2.2.2.1, y.2.2.2.2.2.2.2.1))
def impl_RunDeeds_6_b (n : Nat) {R : Type} (K : Ex → Sm.St T → Option R) (c : List SDeed × Int × Int × List SLot × List STrader) (x : Int × Int × List SLot × List STrader × List Int) (J : (Int × Int × List SLot × List STrader × List Int) → Option R) : Option R :=
  impl_RunDeeds_L6 n (fun (y0 : Int) (y1 : List SLot) (y2 : List STrader) (y6 : List Int) => K (.exit 0) (stOf (T := T) [2, 4, 6] [16, 3000001, 3000002, 32, 3000003, 3000004, 3000000] [.one (.ptr 16 0 0), .one (.ptr 32 0 0), .one (.own 3000000 3 false)] [.var [.own 3000001 116 false, .own 3000002 114 false, .int .i64], .arr 116 false, .arr 114 false, .var [.own 3000003 116 false, .own 3000004 114 false, .int .i64], .arr 116 false, .arr 114 false, .arr 3 false] ((), (), (), ()) (((), (), y0, ()), y1, y2, ((), (), c.2.2.1, ()), c.2.2.2.1, c.2.2.2.2, y6, ()))) (fun z0 z1 z2 z3 z4 => J (z0, z1, z2, z3, z4)) c.1 c.2.1 x.1 x.2.1 x.2.2.1 x.2.2.2.1 c.2.2.1 c.2.2.2.1 c.2.2.2.2 x.2.2.2.2
def impl_RunDeeds_6_sp (n : Nat) : LSpec T := mkSpec T ⟨[((.reg 6), 3000000, 3), ((.cell 16 0), 3000001, 116), ((.cell 16 1), 3000002, 114), ((.cell 32 0), 3000003, 116), ((.cell 32 1), 3000004, 114)], [2, 4, 6, 16, 17, 18], [16, 3000001, 3000002, 32, 3000003, 3000004, 3000000]⟩ impl_RunDeeds_6_sv impl_RunDeeds_6_so (List SDeed × Int × Int × List SLot × List STrader) (Int × Int × List SLot × List STrader × List Int) impl_RunDeeds_6_emb impl_RunDeeds_6_prj (impl_RunDeeds_6_b n)
noncomputable def impl_RunDeeds_6_c : Code := ((loopCodes impl_RunDeeds_code)[0]?).getD .skip
def impl_RunDeeds_ann : Ann := fun id => bif Nat.beq id 3000006 then some ⟨[((.reg 6), 3000000, 3), ((.cell 16 0), 3000001, 116), ((.cell 16 1), 3000002, 114), ((.cell 32 0), 3000003, 116), ((.cell 32 1), 3000004, 114)], [2, 4, 6], [16, 3000001, 3000002, 32, 3000003, 3000004, 3000000]⟩ else none
def impl_RunDeeds_Ls (n : Nat) : Nat → Option (LSpec T) := fun id => bif Nat.beq id 6 then some (impl_RunDeeds_6_sp n) else none
theorem impl_RunDeeds_6_le (n : Nat) : LoopEq (T := T) (Phi n 39) (impl_RunDeeds_Ls n) impl_RunDeeds_ann n impl_RunDeeds_6_c (impl_RunDeeds_6_sp n) := ⟨mkSpec_dec (fun y => rfl), fun c x => by kernel_rfl, fun K J c x => by kernel_rfl⟩
theorem impl_RunDeeds_tie (n : Nat) (h0 : SHouse) (list1 : List SDeed) : evF (T := T) (Phi n 39) (impl_RunDeeds_Ls n) impl_RunDeeds_ann n Try.f59 (sg 59) [vA T 92 h0, vA T 105 list1] impl_RunDeeds_dec = impl_RunDeeds n h0 list1 := by kernel_rfl
theorem impl_RunDeeds_lo (n : Nat) : LoopsOk (T := T) (Phi n 39) (impl_RunDeeds_Ls n) impl_RunDeeds_ann n impl_RunDeeds_code := loopsOk_all (cs := [impl_RunDeeds_6_c]) (by kernel_rfl) ⟨⟨_, by kernel_rfl, impl_RunDeeds_6_le n⟩, trivial⟩
theorem impl_RunDeeds_ok (n : Nat) : EntOk Try.prog (ents n) (impl_RunDeeds_ent n) := by
  intro hs ar y hg h
  replace h : impl_RunDeeds_D n ar = some y := h
  unfold impl_RunDeeds_D at h
  replace h := ocons_some h
  obtain ⟨a0, r0, rfl, h⟩ := h
  replace h := ocons_some h
  obtain ⟨a1, r1, rfl, h⟩ := h
  replace h := onil_some h
  obtain ⟨rfl, h⟩ := h
  obtain ⟨h0, qh0, h⟩ := obind_some h
  obtain ⟨list1, qh1, h⟩ := obind_some h
  rw [argV_eq ok qh0, argV_eq ok qh1]
  exact call_of (phiE_nat _ _) hs ok mixed Try.func59 (c := impl_RunDeeds_code) (by kernel_rfl) (impl_RunDeeds_lo n) (by kernel_rfl) (by kernel_rfl) (by kernel_rfl) impl_RunDeeds_de ((impl_RunDeeds_tie n h0 list1).trans h)
noncomputable def laws_eqLot_code : Code := match Try.f207.body with | some c => c | none => .skip
def laws_eqLot_ann : Ann := fun id => none
def laws_eqLot_Ls (n : Nat) : Nat → Option (LSpec T) := fun id => none
theorem laws_eqLot_tie (n : Nat) (a0 : SLot) (b1 : SLot) : evF (T := T) (Phi n 40) (laws_eqLot_Ls n) laws_eqLot_ann n Try.f207 (sg 207) [vA T 116 a0, vA T 116 b1] laws_eqLot_dec = laws_eqLot n a0 b1 := by kernel_rfl
theorem laws_eqLot_lo (n : Nat) : LoopsOk (T := T) (Phi n 40) (laws_eqLot_Ls n) laws_eqLot_ann n laws_eqLot_code := loopsOk_all (cs := []) (by kernel_rfl) trivial
theorem laws_eqLot_ok (n : Nat) : EntOk Try.prog (ents n) (laws_eqLot_ent n) := by
  intro hs ar y hg h
  replace h : laws_eqLot_D n ar = some y := h
  unfold laws_eqLot_D at h
  replace h := ocons_some h
  obtain ⟨a0, r0, rfl, h⟩ := h
  replace h := ocons_some h
  obtain ⟨a1, r1, rfl, h⟩ := h
  replace h := onil_some h
  obtain ⟨rfl, h⟩ := h
  obtain ⟨a0, qh0, h⟩ := obind_some h
  obtain ⟨b1, qh1, h⟩ := obind_some h
  rw [argV_eq ok qh0, argV_eq ok qh1]
  exact call_of (phiE_nat _ _) hs ok mixed Try.func207 (c := laws_eqLot_code) (by kernel_rfl) (laws_eqLot_lo n) (by kernel_rfl) (by kernel_rfl) (by kernel_rfl) laws_eqLot_de ((laws_eqLot_tie n a0 b1).trans h)
noncomputable def laws_eqLotS_code : Code := match Try.f147.body with | some c => c | none => .skip
def laws_eqLotS_4_sv : List Sv := [.one (.arr 116), .one (.arr 116), .one (.int .i64)]
def laws_eqLotS_4_so : List So := []
def laws_eqLotS_4_emb (c : List SLot × List SLot) (x : Int) : EVs T laws_eqLotS_4_sv × EOs T laws_eqLotS_4_so := ((c.1, c.2, x, ()), ())
def laws_eqLotS_4_prj (y : EVs T laws_eqLotS_4_sv × EOs T laws_eqLotS_4_so) : (List SLot × List SLot) × Int := ((y.1.1, y.1.2.1), (y.1.2.2.1))
def laws_eqLotS_4_b (n : Nat) {R : Type} (K : Ex → Sm.St T → Option R) (c : List SLot × List SLot) (x : Int) (J : Int → Option R) : Option R :=
  laws_eqLotS_L4 n (K (.exit 0) (stOf (T := T) [] [] [] [] () ())) (fun (y0 : Bool) => K .ret (stOf (T := T) [4] [] [.one (.bool)] [] (y0, ()) ())) J c.1 c.2 x
def laws_eqLotS_4_sp (n : Nat) : LSpec T := mkSpec T ⟨[], [0, 1, 5], []⟩ laws_eqLotS_4_sv laws_eqLotS_4_so (List SLot × List SLot) (Int) laws_eqLotS_4_emb laws_eqLotS_4_prj (laws_eqLotS_4_b n)
noncomputable def laws_eqLotS_4_c : Code := ((loopCodes laws_eqLotS_code)[0]?).getD .skip
def laws_eqLotS_ann : Ann := fun id => bif Nat.beq id 3000004 then some ⟨[], [], []⟩ else bif Nat.beq id 2000004 then some ⟨[], [4], []⟩ else none
def laws_eqLotS_Ls (n : Nat) : Nat → Option (LSpec T) := fun id => bif Nat.beq id 4 then some (laws_eqLotS_4_sp n) else none
theorem laws_eqLotS_4_le (n : Nat) : LoopEq (T := T) (Phi n 41) (laws_eqLotS_Ls n) laws_eqLotS_ann n laws_eqLotS_4_c (laws_eqLotS_4_sp n) := ⟨mkSpec_dec (fun y => rfl), fun c x => by kernel_rfl, fun K J c x => by kernel_rfl⟩
theorem laws_eqLotS_tie (n : Nat) (a0 : List SLot) (b1 : List SLot) : evF (T := T) (Phi n 41) (laws_eqLotS_Ls n) laws_eqLotS_ann n Try.f147 (sg 147) [vA T 89 a0, vA T 89 b1] laws_eqLotS_dec = laws_eqLotS n a0 b1 := by kernel_rfl
theorem laws_eqLotS_lo (n : Nat) : LoopsOk (T := T) (Phi n 41) (laws_eqLotS_Ls n) laws_eqLotS_ann n laws_eqLotS_code := loopsOk_all (cs := [laws_eqLotS_4_c]) (by kernel_rfl) ⟨⟨_, by kernel_rfl, laws_eqLotS_4_le n⟩, trivial⟩
theorem laws_eqLotS_ok (n : Nat) : EntOk Try.prog (ents n) (laws_eqLotS_ent n) := by
  intro hs ar y hg h
  replace h : laws_eqLotS_D n ar = some y := h
  unfold laws_eqLotS_D at h
  replace h := ocons_some h
  obtain ⟨a0, r0, rfl, h⟩ := h
  replace h := ocons_some h
  obtain ⟨a1, r1, rfl, h⟩ := h
  replace h := onil_some h
  obtain ⟨rfl, h⟩ := h
  obtain ⟨a0, qh0, h⟩ := obind_some h
  obtain ⟨b1, qh1, h⟩ := obind_some h
  rw [argV_eq ok qh0, argV_eq ok qh1]
  exact call_of (phiE_nat _ _) hs ok mixed Try.func147 (c := laws_eqLotS_code) (by kernel_rfl) (laws_eqLotS_lo n) (by kernel_rfl) (by kernel_rfl) (by kernel_rfl) laws_eqLotS_de ((laws_eqLotS_tie n a0 b1).trans h)
noncomputable def laws_eqTrader_code : Code := match Try.f208.body with | some c => c | none => .skip
def laws_eqTrader_ann : Ann := fun id => none
def laws_eqTrader_Ls (n : Nat) : Nat → Option (LSpec T) := fun id => none
theorem laws_eqTrader_tie (n : Nat) (a0 : STrader) (b1 : STrader) : evF (T := T) (Phi n 42) (laws_eqTrader_Ls n) laws_eqTrader_ann n Try.f208 (sg 208) [vA T 114 a0, vA T 114 b1] laws_eqTrader_dec = laws_eqTrader n a0 b1 := by kernel_rfl
theorem laws_eqTrader_lo (n : Nat) : LoopsOk (T := T) (Phi n 42) (laws_eqTrader_Ls n) laws_eqTrader_ann n laws_eqTrader_code := loopsOk_all (cs := []) (by kernel_rfl) trivial
theorem laws_eqTrader_ok (n : Nat) : EntOk Try.prog (ents n) (laws_eqTrader_ent n) := by
  intro hs ar y hg h
  replace h : laws_eqTrader_D n ar = some y := h
  unfold laws_eqTrader_D at h
  replace h := ocons_some h
  obtain ⟨a0, r0, rfl, h⟩ := h
  replace h := ocons_some h
  obtain ⟨a1, r1, rfl, h⟩ := h
  replace h := onil_some h
  obtain ⟨rfl, h⟩ := h
  obtain ⟨a0, qh0, h⟩ := obind_some h
  obtain ⟨b1, qh1, h⟩ := obind_some h
  rw [argV_eq ok qh0, argV_eq ok qh1]
  exact call_of (phiE_nat _ _) hs ok mixed Try.func208 (c := laws_eqTrader_code) (by kernel_rfl) (laws_eqTrader_lo n) (by kernel_rfl) (by kernel_rfl) (by kernel_rfl) laws_eqTrader_de ((laws_eqTrader_tie n a0 b1).trans h)
noncomputable def laws_eqTraderS_code : Code := match Try.f148.body with | some c => c | none => .skip
def laws_eqTraderS_4_sv : List Sv := [.one (.arr 114), .one (.arr 114), .one (.int .i64)]
def laws_eqTraderS_4_so : List So := []
def laws_eqTraderS_4_emb (c : List STrader × List STrader) (x : Int) : EVs T laws_eqTraderS_4_sv × EOs T laws_eqTraderS_4_so := ((c.1, c.2, x, ()), ())
def laws_eqTraderS_4_prj (y : EVs T laws_eqTraderS_4_sv × EOs T laws_eqTraderS_4_so) : (List STrader × List STrader) × Int := ((y.1.1, y.1.2.1), (y.1.2.2.1))
def laws_eqTraderS_4_b (n : Nat) {R : Type} (K : Ex → Sm.St T → Option R) (c : List STrader × List STrader) (x : Int) (J : Int → Option R) : Option R :=
  laws_eqTraderS_L4 n (K (.exit 0) (stOf (T := T) [] [] [] [] () ())) (fun (y0 : Bool) => K .ret (stOf (T := T) [4] [] [.one (.bool)] [] (y0, ()) ())) J c.1 c.2 x
def laws_eqTraderS_4_sp (n : Nat) : LSpec T := mkSpec T ⟨[], [0, 1, 5], []⟩ laws_eqTraderS_4_sv laws_eqTraderS_4_so (List STrader × List STrader) (Int) laws_eqTraderS_4_emb laws_eqTraderS_4_prj (laws_eqTraderS_4_b n)
noncomputable def laws_eqTraderS_4_c : Code := ((loopCodes laws_eqTraderS_code)[0]?).getD .skip
def laws_eqTraderS_ann : Ann := fun id => bif Nat.beq id 3000004 then some ⟨[], [], []⟩ else bif Nat.beq id 2000004 then some ⟨[], [4], []⟩ else none
def laws_eqTraderS_Ls (n : Nat) : Nat → Option (LSpec T) := fun id => bif Nat.beq id 4 then some (laws_eqTraderS_4_sp n) else none
theorem laws_eqTraderS_4_le (n : Nat) : LoopEq (T := T) (Phi n 43) (laws_eqTraderS_Ls n) laws_eqTraderS_ann n laws_eqTraderS_4_c (laws_eqTraderS_4_sp n) := ⟨mkSpec_dec (fun y => rfl), fun c x => by kernel_rfl, fun K J c x => by kernel_rfl⟩
theorem laws_eqTraderS_tie (n : Nat) (a0 : List STrader) (b1 : List STrader) : evF (T := T) (Phi n 43) (laws_eqTraderS_Ls n) laws_eqTraderS_ann n Try.f148 (sg 148) [vA T 90 a0, vA T 90 b1] laws_eqTraderS_dec = laws_eqTraderS n a0 b1 := by kernel_rfl
theorem laws_eqTraderS_lo (n : Nat) : LoopsOk (T := T) (Phi n 43) (laws_eqTraderS_Ls n) laws_eqTraderS_ann n laws_eqTraderS_code := loopsOk_all (cs := [laws_eqTraderS_4_c]) (by kernel_rfl) ⟨⟨_, by kernel_rfl, laws_eqTraderS_4_le n⟩, trivial⟩
theorem laws_eqTraderS_ok (n : Nat) : EntOk Try.prog (ents n) (laws_eqTraderS_ent n) := by
  intro hs ar y hg h
  replace h : laws_eqTraderS_D n ar = some y := h
  unfold laws_eqTraderS_D at h
  replace h := ocons_some h
  obtain ⟨a0, r0, rfl, h⟩ := h
  replace h := ocons_some h
  obtain ⟨a1, r1, rfl, h⟩ := h
  replace h := onil_some h
  obtain ⟨rfl, h⟩ := h
  obtain ⟨a0, qh0, h⟩ := obind_some h
  obtain ⟨b1, qh1, h⟩ := obind_some h
  rw [argV_eq ok qh0, argV_eq ok qh1]
  exact call_of (phiE_nat _ _) hs ok mixed Try.func148 (c := laws_eqTraderS_code) (by kernel_rfl) (laws_eqTraderS_lo n) (by kernel_rfl) (by kernel_rfl) (by kernel_rfl) laws_eqTraderS_de ((laws_eqTraderS_tie n a0 b1).trans h)
noncomputable def laws_eqHouse_code : Code := match Try.f53.body with | some c => c | none => .skip
def laws_eqHouse_ann : Ann := fun id => none
def laws_eqHouse_Ls (n : Nat) : Nat → Option (LSpec T) := fun id => none
theorem laws_eqHouse_tie (n : Nat) (a0 : SHouse) (b1 : SHouse) : evF (T := T) (Phi n 44) (laws_eqHouse_Ls n) laws_eqHouse_ann n Try.f53 (sg 53) [vA T 92 a0, vA T 92 b1] laws_eqHouse_dec = laws_eqHouse n a0 b1 := by kernel_rfl
theorem laws_eqHouse_lo (n : Nat) : LoopsOk (T := T) (Phi n 44) (laws_eqHouse_Ls n) laws_eqHouse_ann n laws_eqHouse_code := loopsOk_all (cs := []) (by kernel_rfl) trivial
theorem laws_eqHouse_ok (n : Nat) : EntOk Try.prog (ents n) (laws_eqHouse_ent n) := by
  intro hs ar y hg h
  replace h : laws_eqHouse_D n ar = some y := h
  unfold laws_eqHouse_D at h
  replace h := ocons_some h
  obtain ⟨a0, r0, rfl, h⟩ := h
  replace h := ocons_some h
  obtain ⟨a1, r1, rfl, h⟩ := h
  replace h := onil_some h
  obtain ⟨rfl, h⟩ := h
  obtain ⟨a0, qh0, h⟩ := obind_some h
  obtain ⟨b1, qh1, h⟩ := obind_some h
  rw [argV_eq ok qh0, argV_eq ok qh1]
  exact call_of (phiE_nat _ _) hs ok mixed Try.func53 (c := laws_eqHouse_code) (by kernel_rfl) (laws_eqHouse_lo n) (by kernel_rfl) (by kernel_rfl) (by kernel_rfl) laws_eqHouse_de ((laws_eqHouse_tie n a0 b1).trans h)
noncomputable def laws_eqIntS_code : Code := match Try.f31.body with | some c => c | none => .skip
def laws_eqIntS_4_sv : List Sv := [.one (.arr 3), .one (.arr 3), .one (.int .i64)]
def laws_eqIntS_4_so : List So := []
def laws_eqIntS_4_emb (c : List Int × List Int) (x : Int) : EVs T laws_eqIntS_4_sv × EOs T laws_eqIntS_4_so := ((c.1, c.2, x, ()), ())
def laws_eqIntS_4_prj (y : EVs T laws_eqIntS_4_sv × EOs T laws_eqIntS_4_so) : (List Int × List Int) × Int := ((y.1.1, y.1.2.1), (y.1.2.2.1))
def laws_eqIntS_4_b (n : Nat) {R : Type} (K : Ex → Sm.St T → Option R) (c : List Int × List Int) (x : Int) (J : Int → Option R) : Option R :=
  laws_eqIntS_L4 n (K (.exit 0) (stOf (T := T) [] [] [] [] () ())) (fun (y0 : Bool) => K .ret (stOf (T := T) [4] [] [.one (.bool)] [] (y0, ()) ())) J c.1 c.2 x
def laws_eqIntS_4_sp (n : Nat) : LSpec T := mkSpec T ⟨[], [0, 1, 5], []⟩ laws_eqIntS_4_sv laws_eqIntS_4_so (List Int × List Int) (Int) laws_eqIntS_4_emb laws_eqIntS_4_prj (laws_eqIntS_4_b n)
noncomputable def laws_eqIntS_4_c : Code := ((loopCodes laws_eqIntS_code)[0]?).getD .skip
def laws_eqIntS_ann : Ann := fun id => bif Nat.beq id 3000004 then some ⟨[], [], []⟩ else bif Nat.beq id 2000004 then some ⟨[], [4], []⟩ else none
def laws_eqIntS_Ls (n : Nat) : Nat → Option (LSpec T) := fun id => bif Nat.beq id 4 then some (laws_eqIntS_4_sp n) else none
theorem laws_eqIntS_4_le (n : Nat) : LoopEq (T := T) (Phi n 45) (laws_eqIntS_Ls n) laws_eqIntS_ann n laws_eqIntS_4_c (laws_eqIntS_4_sp n) := ⟨mkSpec_dec (fun y => rfl), fun c x => by kernel_rfl, fun K J c x => by kernel_rfl⟩
theorem laws_eqIntS_tie (n : Nat) (a0 : List Int) (b1 : List Int) : evF (T := T) (Phi n 45) (laws_eqIntS_Ls n) laws_eqIntS_ann n Try.f31 (sg 31) [vA T 23 a0, vA T 23 b1] laws_eqIntS_dec = laws_eqIntS n a0 b1 := by kernel_rfl
theorem laws_eqIntS_lo (n : Nat) : LoopsOk (T := T) (Phi n 45) (laws_eqIntS_Ls n) laws_eqIntS_ann n laws_eqIntS_code := loopsOk_all (cs := [laws_eqIntS_4_c]) (by kernel_rfl) ⟨⟨_, by kernel_rfl, laws_eqIntS_4_le n⟩, trivial⟩
theorem laws_eqIntS_ok (n : Nat) : EntOk Try.prog (ents n) (laws_eqIntS_ent n) := by
  intro hs ar y hg h
  replace h : laws_eqIntS_D n ar = some y := h
  unfold laws_eqIntS_D at h
  replace h := ocons_some h
  obtain ⟨a0, r0, rfl, h⟩ := h
  replace h := ocons_some h
  obtain ⟨a1, r1, rfl, h⟩ := h
  replace h := onil_some h
  obtain ⟨rfl, h⟩ := h
  obtain ⟨a0, qh0, h⟩ := obind_some h
  obtain ⟨b1, qh1, h⟩ := obind_some h
  rw [argV_eq ok qh0, argV_eq ok qh1]
  exact call_of (phiE_nat _ _) hs ok mixed Try.func31 (c := laws_eqIntS_code) (by kernel_rfl) (laws_eqIntS_lo n) (by kernel_rfl) (by kernel_rfl) (by kernel_rfl) laws_eqIntS_de ((laws_eqIntS_tie n a0 b1).trans h)
noncomputable def laws_eqDeed_code : Code := match Try.f153.body with | some c => c | none => .skip
def laws_eqDeed_ann : Ann := fun id => none
def laws_eqDeed_Ls (n : Nat) : Nat → Option (LSpec T) := fun id => none
theorem laws_eqDeed_tie (n : Nat) (a0 : SDeed) (b1 : SDeed) : evF (T := T) (Phi n 46) (laws_eqDeed_Ls n) laws_eqDeed_ann n Try.f153 (sg 153) [vA T 96 a0, vA T 96 b1] laws_eqDeed_dec = laws_eqDeed n a0 b1 := by kernel_rfl
theorem laws_eqDeed_lo (n : Nat) : LoopsOk (T := T) (Phi n 46) (laws_eqDeed_Ls n) laws_eqDeed_ann n laws_eqDeed_code := loopsOk_all (cs := []) (by kernel_rfl) trivial
theorem laws_eqDeed_ok (n : Nat) : EntOk Try.prog (ents n) (laws_eqDeed_ent n) := by
  intro hs ar y hg h
  replace h : laws_eqDeed_D n ar = some y := h
  unfold laws_eqDeed_D at h
  replace h := ocons_some h
  obtain ⟨a0, r0, rfl, h⟩ := h
  replace h := ocons_some h
  obtain ⟨a1, r1, rfl, h⟩ := h
  replace h := onil_some h
  obtain ⟨rfl, h⟩ := h
  obtain ⟨a0, qh0, h⟩ := obind_some h
  obtain ⟨b1, qh1, h⟩ := obind_some h
  rw [argV_eq ok qh0, argV_eq ok qh1]
  exact call_of (phiE_nat _ _) hs ok mixed Try.func153 (c := laws_eqDeed_code) (by kernel_rfl) (laws_eqDeed_lo n) (by kernel_rfl) (by kernel_rfl) (by kernel_rfl) laws_eqDeed_de ((laws_eqDeed_tie n a0 b1).trans h)
noncomputable def laws_eqDeedS_code : Code := match Try.f60.body with | some c => c | none => .skip
def laws_eqDeedS_4_sv : List Sv := [.one (.arr 96), .one (.arr 96), .one (.int .i64)]
def laws_eqDeedS_4_so : List So := []
def laws_eqDeedS_4_emb (c : List SDeed × List SDeed) (x : Int) : EVs T laws_eqDeedS_4_sv × EOs T laws_eqDeedS_4_so := ((c.1, c.2, x, ()), ())
def laws_eqDeedS_4_prj (y : EVs T laws_eqDeedS_4_sv × EOs T laws_eqDeedS_4_so) : (List SDeed × List SDeed) × Int := ((y.1.1, y.1.2.1), (y.1.2.2.1))
def laws_eqDeedS_4_b (n : Nat) {R : Type} (K : Ex → Sm.St T → Option R) (c : List SDeed × List SDeed) (x : Int) (J : Int → Option R) : Option R :=
  laws_eqDeedS_L4 n (K (.exit 0) (stOf (T := T) [] [] [] [] () ())) (fun (y0 : Bool) => K .ret (stOf (T := T) [4] [] [.one (.bool)] [] (y0, ()) ())) J c.1 c.2 x
def laws_eqDeedS_4_sp (n : Nat) : LSpec T := mkSpec T ⟨[], [0, 1, 5], []⟩ laws_eqDeedS_4_sv laws_eqDeedS_4_so (List SDeed × List SDeed) (Int) laws_eqDeedS_4_emb laws_eqDeedS_4_prj (laws_eqDeedS_4_b n)
noncomputable def laws_eqDeedS_4_c : Code := ((loopCodes laws_eqDeedS_code)[0]?).getD .skip
def laws_eqDeedS_ann : Ann := fun id => bif Nat.beq id 3000004 then some ⟨[], [], []⟩ else bif Nat.beq id 2000004 then some ⟨[], [4], []⟩ else none
def laws_eqDeedS_Ls (n : Nat) : Nat → Option (LSpec T) := fun id => bif Nat.beq id 4 then some (laws_eqDeedS_4_sp n) else none
theorem laws_eqDeedS_4_le (n : Nat) : LoopEq (T := T) (Phi n 47) (laws_eqDeedS_Ls n) laws_eqDeedS_ann n laws_eqDeedS_4_c (laws_eqDeedS_4_sp n) := ⟨mkSpec_dec (fun y => rfl), fun c x => by kernel_rfl, fun K J c x => by kernel_rfl⟩
theorem laws_eqDeedS_tie (n : Nat) (a0 : List SDeed) (b1 : List SDeed) : evF (T := T) (Phi n 47) (laws_eqDeedS_Ls n) laws_eqDeedS_ann n Try.f60 (sg 60) [vA T 105 a0, vA T 105 b1] laws_eqDeedS_dec = laws_eqDeedS n a0 b1 := by kernel_rfl
theorem laws_eqDeedS_lo (n : Nat) : LoopsOk (T := T) (Phi n 47) (laws_eqDeedS_Ls n) laws_eqDeedS_ann n laws_eqDeedS_code := loopsOk_all (cs := [laws_eqDeedS_4_c]) (by kernel_rfl) ⟨⟨_, by kernel_rfl, laws_eqDeedS_4_le n⟩, trivial⟩
theorem laws_eqDeedS_ok (n : Nat) : EntOk Try.prog (ents n) (laws_eqDeedS_ent n) := by
  intro hs ar y hg h
  replace h : laws_eqDeedS_D n ar = some y := h
  unfold laws_eqDeedS_D at h
  replace h := ocons_some h
  obtain ⟨a0, r0, rfl, h⟩ := h
  replace h := ocons_some h
  obtain ⟨a1, r1, rfl, h⟩ := h
  replace h := onil_some h
  obtain ⟨rfl, h⟩ := h
  obtain ⟨a0, qh0, h⟩ := obind_some h
  obtain ⟨b1, qh1, h⟩ := obind_some h
  rw [argV_eq ok qh0, argV_eq ok qh1]
  exact call_of (phiE_nat _ _) hs ok mixed Try.func60 (c := laws_eqDeedS_code) (by kernel_rfl) (laws_eqDeedS_lo n) (by kernel_rfl) (by kernel_rfl) (by kernel_rfl) laws_eqDeedS_de ((laws_eqDeedS_tie n a0 b1).trans h)
noncomputable def laws_markLotS_code : Code := match Try.f149.body with | some c => c | none => .skip
def laws_markLotS_2_sv : List Sv := [.one (.own 4503599627370496 116 false), .one (.int .i64), .one (.int .i64)]
def laws_markLotS_2_so : List So := [.arr 116 true]
def laws_markLotS_2_emb (c : Unit) (x : Int × Int × List SLot) : EVs T laws_markLotS_2_sv × EOs T laws_markLotS_2_so := (((), x.1, x.2.1, ()), (x.2.2, ()))
def laws_markLotS_2_prj (y : EVs T laws_markLotS_2_sv × EOs T laws_markLotS_2_so) : Unit × (Int × Int × List SLot) := ((), (y.1.2.1, y.1.2.2.1, y.2.1))
def laws_markLotS_2_b (n : Nat) {R : Type} (K : Ex → Sm.St T → Option R) (c : Unit) (x : Int × Int × List SLot) (J : (Int × Int × List SLot) → Option R) : Option R :=
  laws_markLotS_L2 n (fun (y0 : Int) (y1 : List SLot) => K (.exit 0) (stOf (T := T) [1] [4503599627370496] [.one (.int .i64)] [.arr 116 true] (y0, ()) (y1, ()))) (fun z0 z1 z2 => J (z0, z1, z2)) x.1 x.2.1 x.2.2
def laws_markLotS_2_sp (n : Nat) : LSpec T := mkSpec T ⟨[], [0, 1, 5], [4503599627370496]⟩ laws_markLotS_2_sv laws_markLotS_2_so (Unit) (Int × Int × List SLot) laws_markLotS_2_emb laws_markLotS_2_prj (laws_markLotS_2_b n)
noncomputable def laws_markLotS_2_c : Code := ((loopCodes laws_markLotS_code)[0]?).getD .skip
def laws_markLotS_ann : Ann := fun id => bif Nat.beq id 3000002 then some ⟨[], [1], [4503599627370496]⟩ else none
def laws_markLotS_Ls (n : Nat) : Nat → Option (LSpec T) := fun id => bif Nat.beq id 2 then some (laws_markLotS_2_sp n) else none
theorem laws_markLotS_2_le (n : Nat) : LoopEq (T := T) (Phi n 48) (laws_markLotS_Ls n) laws_markLotS_ann n laws_markLotS_2_c (laws_markLotS_2_sp n) := ⟨mkSpec_dec (fun y => rfl), fun c x => by kernel_rfl, fun K J c x => by kernel_rfl⟩
theorem laws_markLotS_tie (n : Nat) (a0 : List SLot) (k1 : Int) : evF (T := T) (Phi n 48) (laws_markLotS_Ls n) laws_markLotS_ann n Try.f149 (sg 149) [vA T 89 a0, vA T 3 k1] laws_markLotS_dec = laws_markLotS n a0 k1 := by kernel_rfl
theorem laws_markLotS_lo (n : Nat) : LoopsOk (T := T) (Phi n 48) (laws_markLotS_Ls n) laws_markLotS_ann n laws_markLotS_code := loopsOk_all (cs := [laws_markLotS_2_c]) (by kernel_rfl) ⟨⟨_, by kernel_rfl, laws_markLotS_2_le n⟩, trivial⟩
theorem laws_markLotS_ok (n : Nat) : EntOk Try.prog (ents n) (laws_markLotS_ent n) := by
  intro hs ar y hg h
  replace h : laws_markLotS_D n ar = some y := h
  unfold laws_markLotS_D at h
  replace h := ocons_some h
  obtain ⟨a0, r0, rfl, h⟩ := h
  replace h := ocons_some h
  obtain ⟨a1, r1, rfl, h⟩ := h
  replace h := onil_some h
  obtain ⟨rfl, h⟩ := h
  obtain ⟨a0, qh0, h⟩ := obind_some h
  obtain ⟨k1, qh1, h⟩ := obind_some h
  rw [argV_eq ok qh0, argV_eq ok qh1]
  exact call_of (phiE_nat _ _) hs ok mixed Try.func149 (c := laws_markLotS_code) (by kernel_rfl) (laws_markLotS_lo n) (by kernel_rfl) (by kernel_rfl) (by kernel_rfl) laws_markLotS_de ((laws_markLotS_tie n a0 k1).trans h)
noncomputable def laws_markTraderS_code : Code := match Try.f150.body with | some c => c | none => .skip
def laws_markTraderS_2_sv : List Sv := [.one (.own 4503599627370496 114 false), .one (.int .i64), .one (.int .i64)]
def laws_markTraderS_2_so : List So := [.arr 114 true]
def laws_markTraderS_2_emb (c : Unit) (x : Int × Int × List STrader) : EVs T laws_markTraderS_2_sv × EOs T laws_markTraderS_2_so := (((), x.1, x.2.1, ()), (x.2.2, ()))
def laws_markTraderS_2_prj (y : EVs T laws_markTraderS_2_sv × EOs T laws_markTraderS_2_so) : Unit × (Int × Int × List STrader) := ((), (y.1.2.1, y.1.2.2.1, y.2.1))
def laws_markTraderS_2_b (n : Nat) {R : Type} (K : Ex → Sm.St T → Option R) (c : Unit) (x : Int × Int × List STrader) (J : (Int × Int × List STrader) → Option R) : Option R :=
  laws_markTraderS_L2 n (fun (y0 : Int) (y1 : List STrader) => K (.exit 0) (stOf (T := T) [1] [4503599627370496] [.one (.int .i64)] [.arr 114 true] (y0, ()) (y1, ()))) (fun z0 z1 z2 => J (z0, z1, z2)) x.1 x.2.1 x.2.2
def laws_markTraderS_2_sp (n : Nat) : LSpec T := mkSpec T ⟨[], [0, 1, 5], [4503599627370496]⟩ laws_markTraderS_2_sv laws_markTraderS_2_so (Unit) (Int × Int × List STrader) laws_markTraderS_2_emb laws_markTraderS_2_prj (laws_markTraderS_2_b n)
noncomputable def laws_markTraderS_2_c : Code := ((loopCodes laws_markTraderS_code)[0]?).getD .skip
def laws_markTraderS_ann : Ann := fun id => bif Nat.beq id 3000002 then some ⟨[], [1], [4503599627370496]⟩ else none
def laws_markTraderS_Ls (n : Nat) : Nat → Option (LSpec T) := fun id => bif Nat.beq id 2 then some (laws_markTraderS_2_sp n) else none
theorem laws_markTraderS_2_le (n : Nat) : LoopEq (T := T) (Phi n 49) (laws_markTraderS_Ls n) laws_markTraderS_ann n laws_markTraderS_2_c (laws_markTraderS_2_sp n) := ⟨mkSpec_dec (fun y => rfl), fun c x => by kernel_rfl, fun K J c x => by kernel_rfl⟩
theorem laws_markTraderS_tie (n : Nat) (a0 : List STrader) (k1 : Int) : evF (T := T) (Phi n 49) (laws_markTraderS_Ls n) laws_markTraderS_ann n Try.f150 (sg 150) [vA T 90 a0, vA T 3 k1] laws_markTraderS_dec = laws_markTraderS n a0 k1 := by kernel_rfl
theorem laws_markTraderS_lo (n : Nat) : LoopsOk (T := T) (Phi n 49) (laws_markTraderS_Ls n) laws_markTraderS_ann n laws_markTraderS_code := loopsOk_all (cs := [laws_markTraderS_2_c]) (by kernel_rfl) ⟨⟨_, by kernel_rfl, laws_markTraderS_2_le n⟩, trivial⟩
theorem laws_markTraderS_ok (n : Nat) : EntOk Try.prog (ents n) (laws_markTraderS_ent n) := by
  intro hs ar y hg h
  replace h : laws_markTraderS_D n ar = some y := h
  unfold laws_markTraderS_D at h
  replace h := ocons_some h
  obtain ⟨a0, r0, rfl, h⟩ := h
  replace h := ocons_some h
  obtain ⟨a1, r1, rfl, h⟩ := h
  replace h := onil_some h
  obtain ⟨rfl, h⟩ := h
  obtain ⟨a0, qh0, h⟩ := obind_some h
  obtain ⟨k1, qh1, h⟩ := obind_some h
  rw [argV_eq ok qh0, argV_eq ok qh1]
  exact call_of (phiE_nat _ _) hs ok mixed Try.func150 (c := laws_markTraderS_code) (by kernel_rfl) (laws_markTraderS_lo n) (by kernel_rfl) (by kernel_rfl) (by kernel_rfl) laws_markTraderS_de ((laws_markTraderS_tie n a0 k1).trans h)
noncomputable def laws_markHouse_code : Code := match Try.f54.body with | some c => c | none => .skip
def laws_markHouse_ann : Ann := fun id => none
def laws_markHouse_Ls (n : Nat) : Nat → Option (LSpec T) := fun id => none
theorem laws_markHouse_tie (n : Nat) (a0 : SHouse) (k1 : Int) : evF (T := T) (Phi n 50) (laws_markHouse_Ls n) laws_markHouse_ann n Try.f54 (sg 54) [vA T 92 a0, vA T 3 k1] laws_markHouse_dec = laws_markHouse n a0 k1 := by kernel_rfl
theorem laws_markHouse_lo (n : Nat) : LoopsOk (T := T) (Phi n 50) (laws_markHouse_Ls n) laws_markHouse_ann n laws_markHouse_code := loopsOk_all (cs := []) (by kernel_rfl) trivial
theorem laws_markHouse_ok (n : Nat) : EntOk Try.prog (ents n) (laws_markHouse_ent n) := by
  intro hs ar y hg h
  replace h : laws_markHouse_D n ar = some y := h
  unfold laws_markHouse_D at h
  replace h := ocons_some h
  obtain ⟨a0, r0, rfl, h⟩ := h
  replace h := ocons_some h
  obtain ⟨a1, r1, rfl, h⟩ := h
  replace h := onil_some h
  obtain ⟨rfl, h⟩ := h
  obtain ⟨a0, qh0, h⟩ := obind_some h
  obtain ⟨k1, qh1, h⟩ := obind_some h
  rw [argV_eq ok qh0, argV_eq ok qh1]
  exact call_of (phiE_nat _ _) hs ok mixed Try.func54 (c := laws_markHouse_code) (by kernel_rfl) (laws_markHouse_lo n) (by kernel_rfl) (by kernel_rfl) (by kernel_rfl) laws_markHouse_de ((laws_markHouse_tie n a0 k1).trans h)
noncomputable def laws_markDeedS_code : Code := match Try.f61.body with | some c => c | none => .skip
def laws_markDeedS_2_sv : List Sv := [.one (.own 4503599627370496 96 false), .one (.int .i64), .one (.int .i64)]
def laws_markDeedS_2_so : List So := [.arr 96 true]
def laws_markDeedS_2_emb (c : Unit) (x : Int × Int × List SDeed) : EVs T laws_markDeedS_2_sv × EOs T laws_markDeedS_2_so := (((), x.1, x.2.1, ()), (x.2.2, ()))
def laws_markDeedS_2_prj (y : EVs T laws_markDeedS_2_sv × EOs T laws_markDeedS_2_so) : Unit × (Int × Int × List SDeed) := ((), (y.1.2.1, y.1.2.2.1, y.2.1))
def laws_markDeedS_2_b (n : Nat) {R : Type} (K : Ex → Sm.St T → Option R) (c : Unit) (x : Int × Int × List SDeed) (J : (Int × Int × List SDeed) → Option R) : Option R :=
  laws_markDeedS_L2 n (fun (y0 : Int) (y1 : List SDeed) => K (.exit 0) (stOf (T := T) [1] [4503599627370496] [.one (.int .i64)] [.arr 96 true] (y0, ()) (y1, ()))) (fun z0 z1 z2 => J (z0, z1, z2)) x.1 x.2.1 x.2.2
def laws_markDeedS_2_sp (n : Nat) : LSpec T := mkSpec T ⟨[], [0, 1, 5], [4503599627370496]⟩ laws_markDeedS_2_sv laws_markDeedS_2_so (Unit) (Int × Int × List SDeed) laws_markDeedS_2_emb laws_markDeedS_2_prj (laws_markDeedS_2_b n)
noncomputable def laws_markDeedS_2_c : Code := ((loopCodes laws_markDeedS_code)[0]?).getD .skip
def laws_markDeedS_ann : Ann := fun id => bif Nat.beq id 3000002 then some ⟨[], [1], [4503599627370496]⟩ else none
def laws_markDeedS_Ls (n : Nat) : Nat → Option (LSpec T) := fun id => bif Nat.beq id 2 then some (laws_markDeedS_2_sp n) else none
theorem laws_markDeedS_2_le (n : Nat) : LoopEq (T := T) (Phi n 51) (laws_markDeedS_Ls n) laws_markDeedS_ann n laws_markDeedS_2_c (laws_markDeedS_2_sp n) := ⟨mkSpec_dec (fun y => rfl), fun c x => by kernel_rfl, fun K J c x => by kernel_rfl⟩
theorem laws_markDeedS_tie (n : Nat) (a0 : List SDeed) (k1 : Int) : evF (T := T) (Phi n 51) (laws_markDeedS_Ls n) laws_markDeedS_ann n Try.f61 (sg 61) [vA T 105 a0, vA T 3 k1] laws_markDeedS_dec = laws_markDeedS n a0 k1 := by kernel_rfl
theorem laws_markDeedS_lo (n : Nat) : LoopsOk (T := T) (Phi n 51) (laws_markDeedS_Ls n) laws_markDeedS_ann n laws_markDeedS_code := loopsOk_all (cs := [laws_markDeedS_2_c]) (by kernel_rfl) ⟨⟨_, by kernel_rfl, laws_markDeedS_2_le n⟩, trivial⟩
theorem laws_markDeedS_ok (n : Nat) : EntOk Try.prog (ents n) (laws_markDeedS_ent n) := by
  intro hs ar y hg h
  replace h : laws_markDeedS_D n ar = some y := h
  unfold laws_markDeedS_D at h
  replace h := ocons_some h
  obtain ⟨a0, r0, rfl, h⟩ := h
  replace h := ocons_some h
  obtain ⟨a1, r1, rfl, h⟩ := h
  replace h := onil_some h
  obtain ⟨rfl, h⟩ := h
  obtain ⟨a0, qh0, h⟩ := obind_some h
  obtain ⟨k1, qh1, h⟩ := obind_some h
  rw [argV_eq ok qh0, argV_eq ok qh1]
  exact call_of (phiE_nat _ _) hs ok mixed Try.func61 (c := laws_markDeedS_code) (by kernel_rfl) (laws_markDeedS_lo n) (by kernel_rfl) (by kernel_rfl) (by kernel_rfl) laws_markDeedS_de ((laws_markDeedS_tie n a0 k1).trans h)
noncomputable def laws_markIntS_code : Code := match Try.f34.body with | some c => c | none => .skip
def laws_markIntS_2_sv : List Sv := [.one (.own 4503599627370496 3 false), .one (.int .i64), .one (.int .i64)]
def laws_markIntS_2_so : List So := [.arr 3 true]
def laws_markIntS_2_emb (c : Unit) (x : Int × Int × List Int) : EVs T laws_markIntS_2_sv × EOs T laws_markIntS_2_so := (((), x.1, x.2.1, ()), (x.2.2, ()))
def laws_markIntS_2_prj (y : EVs T laws_markIntS_2_sv × EOs T laws_markIntS_2_so) : Unit × (Int × Int × List Int) := ((), (y.1.2.1, y.1.2.2.1, y.2.1))
def laws_markIntS_2_b (n : Nat) {R : Type} (K : Ex → Sm.St T → Option R) (c : Unit) (x : Int × Int × List Int) (J : (Int × Int × List Int) → Option R) : Option R :=
  laws_markIntS_L2 n (fun (y0 : Int) (y1 : List Int) => K (.exit 0) (stOf (T := T) [1] [4503599627370496] [.one (.int .i64)] [.arr 3 true] (y0, ()) (y1, ()))) (fun z0 z1 z2 => J (z0, z1, z2)) x.1 x.2.1 x.2.2
def laws_markIntS_2_sp (n : Nat) : LSpec T := mkSpec T ⟨[], [0, 1, 5], [4503599627370496]⟩ laws_markIntS_2_sv laws_markIntS_2_so (Unit) (Int × Int × List Int) laws_markIntS_2_emb laws_markIntS_2_prj (laws_markIntS_2_b n)
noncomputable def laws_markIntS_2_c : Code := ((loopCodes laws_markIntS_code)[0]?).getD .skip
def laws_markIntS_ann : Ann := fun id => bif Nat.beq id 3000002 then some ⟨[], [1], [4503599627370496]⟩ else none
def laws_markIntS_Ls (n : Nat) : Nat → Option (LSpec T) := fun id => bif Nat.beq id 2 then some (laws_markIntS_2_sp n) else none
theorem laws_markIntS_2_le (n : Nat) : LoopEq (T := T) (Phi n 52) (laws_markIntS_Ls n) laws_markIntS_ann n laws_markIntS_2_c (laws_markIntS_2_sp n) := ⟨mkSpec_dec (fun y => rfl), fun c x => by kernel_rfl, fun K J c x => by kernel_rfl⟩
theorem laws_markIntS_tie (n : Nat) (a0 : List Int) (k1 : Int) : evF (T := T) (Phi n 52) (laws_markIntS_Ls n) laws_markIntS_ann n Try.f34 (sg 34) [vA T 23 a0, vA T 3 k1] laws_markIntS_dec = laws_markIntS n a0 k1 := by kernel_rfl
theorem laws_markIntS_lo (n : Nat) : LoopsOk (T := T) (Phi n 52) (laws_markIntS_Ls n) laws_markIntS_ann n laws_markIntS_code := loopsOk_all (cs := [laws_markIntS_2_c]) (by kernel_rfl) ⟨⟨_, by kernel_rfl, laws_markIntS_2_le n⟩, trivial⟩
theorem laws_markIntS_ok (n : Nat) : EntOk Try.prog (ents n) (laws_markIntS_ent n) := by
  intro hs ar y hg h
  replace h : laws_markIntS_D n ar = some y := h
  unfold laws_markIntS_D at h
  replace h := ocons_some h
  obtain ⟨a0, r0, rfl, h⟩ := h
  replace h := ocons_some h
  obtain ⟨a1, r1, rfl, h⟩ := h
  replace h := onil_some h
  obtain ⟨rfl, h⟩ := h
  obtain ⟨a0, qh0, h⟩ := obind_some h
  obtain ⟨k1, qh1, h⟩ := obind_some h
  rw [argV_eq ok qh0, argV_eq ok qh1]
  exact call_of (phiE_nat _ _) hs ok mixed Try.func34 (c := laws_markIntS_code) (by kernel_rfl) (laws_markIntS_lo n) (by kernel_rfl) (by kernel_rfl) (by kernel_rfl) laws_markIntS_de ((laws_markIntS_tie n a0 k1).trans h)
noncomputable def laws_heldLotS_code : Code := match Try.f151.body with | some c => c | none => .skip
def laws_heldLotS_2_sv : List Sv := [.one (.arr 116), .one (.int .i64), .one (.int .i64)]
def laws_heldLotS_2_so : List So := []
def laws_heldLotS_2_emb (c : List SLot) (x : Int × Int) : EVs T laws_heldLotS_2_sv × EOs T laws_heldLotS_2_so := ((c, x.1, x.2, ()), ())
def laws_heldLotS_2_prj (y : EVs T laws_heldLotS_2_sv × EOs T laws_heldLotS_2_so) : List SLot × (Int × Int) := ((y.1.1), (y.1.2.1, y.1.2.2.1))
def laws_heldLotS_2_b (n : Nat) {R : Type} (K : Ex → Sm.St T → Option R) (c : List SLot) (x : Int × Int) (J : (Int × Int) → Option R) : Option R :=
  laws_heldLotS_L2 n (fun (y0 : Int) => K (.exit 0) (stOf (T := T) [1] [] [.one (.int .i64)] [] (y0, ()) ())) (fun (y0 : Int) => K .ret (stOf (T := T) [4] [] [.one (.int .i64)] [] (y0, ()) ())) (fun z0 z1 => J (z0, z1)) c x.1 x.2
def laws_heldLotS_2_sp (n : Nat) : LSpec T := mkSpec T ⟨[], [0, 1, 5], []⟩ laws_heldLotS_2_sv laws_heldLotS_2_so (List SLot) (Int × Int) laws_heldLotS_2_emb laws_heldLotS_2_prj (laws_heldLotS_2_b n)
noncomputable def laws_heldLotS_2_c : Code := ((loopCodes laws_heldLotS_code)[0]?).getD .skip
def laws_heldLotS_ann : Ann := fun id => bif Nat.beq id 3000002 then some ⟨[], [1], []⟩ else bif Nat.beq id 2000002 then some ⟨[], [4], []⟩ else none
def laws_heldLotS_Ls (n : Nat) : Nat → Option (LSpec T) := fun id => bif Nat.beq id 2 then some (laws_heldLotS_2_sp n) else none
theorem laws_heldLotS_2_le (n : Nat) : LoopEq (T := T) (Phi n 53) (laws_heldLotS_Ls n) laws_heldLotS_ann n laws_heldLotS_2_c (laws_heldLotS_2_sp n) := ⟨mkSpec_dec (fun y => rfl), fun c x => by kernel_rfl, fun K J c x => by kernel_rfl⟩
theorem laws_heldLotS_tie (n : Nat) (a0 : List SLot) (k1 : Int) : evF (T := T) (Phi n 53) (laws_heldLotS_Ls n) laws_heldLotS_ann n Try.f151 (sg 151) [vA T 89 a0, vA T 3 k1] laws_heldLotS_dec = laws_heldLotS n a0 k1 := by kernel_rfl
theorem laws_heldLotS_lo (n : Nat) : LoopsOk (T := T) (Phi n 53) (laws_heldLotS_Ls n) laws_heldLotS_ann n laws_heldLotS_code := loopsOk_all (cs := [laws_heldLotS_2_c]) (by kernel_rfl) ⟨⟨_, by kernel_rfl, laws_heldLotS_2_le n⟩, trivial⟩
theorem laws_heldLotS_ok (n : Nat) : EntOk Try.prog (ents n) (laws_heldLotS_ent n) := by
  intro hs ar y hg h
  replace h : laws_heldLotS_D n ar = some y := h
  unfold laws_heldLotS_D at h
  replace h := ocons_some h
  obtain ⟨a0, r0, rfl, h⟩ := h
  replace h := ocons_some h
  obtain ⟨a1, r1, rfl, h⟩ := h
  replace h := onil_some h
  obtain ⟨rfl, h⟩ := h
  obtain ⟨a0, qh0, h⟩ := obind_some h
  obtain ⟨k1, qh1, h⟩ := obind_some h
  rw [argV_eq ok qh0, argV_eq ok qh1]
  exact call_of (phiE_nat _ _) hs ok mixed Try.func151 (c := laws_heldLotS_code) (by kernel_rfl) (laws_heldLotS_lo n) (by kernel_rfl) (by kernel_rfl) (by kernel_rfl) laws_heldLotS_de ((laws_heldLotS_tie n a0 k1).trans h)
noncomputable def laws_heldTraderS_code : Code := match Try.f152.body with | some c => c | none => .skip
def laws_heldTraderS_2_sv : List Sv := [.one (.arr 114), .one (.int .i64), .one (.int .i64)]
def laws_heldTraderS_2_so : List So := []
def laws_heldTraderS_2_emb (c : List STrader) (x : Int × Int) : EVs T laws_heldTraderS_2_sv × EOs T laws_heldTraderS_2_so := ((c, x.1, x.2, ()), ())
def laws_heldTraderS_2_prj (y : EVs T laws_heldTraderS_2_sv × EOs T laws_heldTraderS_2_so) : List STrader × (Int × Int) := ((y.1.1), (y.1.2.1, y.1.2.2.1))
def laws_heldTraderS_2_b (n : Nat) {R : Type} (K : Ex → Sm.St T → Option R) (c : List STrader) (x : Int × Int) (J : (Int × Int) → Option R) : Option R :=
  laws_heldTraderS_L2 n (fun (y0 : Int) => K (.exit 0) (stOf (T := T) [1] [] [.one (.int .i64)] [] (y0, ()) ())) (fun (y0 : Int) => K .ret (stOf (T := T) [4] [] [.one (.int .i64)] [] (y0, ()) ())) (fun z0 z1 => J (z0, z1)) c x.1 x.2
def laws_heldTraderS_2_sp (n : Nat) : LSpec T := mkSpec T ⟨[], [0, 1, 5], []⟩ laws_heldTraderS_2_sv laws_heldTraderS_2_so (List STrader) (Int × Int) laws_heldTraderS_2_emb laws_heldTraderS_2_prj (laws_heldTraderS_2_b n)
noncomputable def laws_heldTraderS_2_c : Code := ((loopCodes laws_heldTraderS_code)[0]?).getD .skip
def laws_heldTraderS_ann : Ann := fun id => bif Nat.beq id 3000002 then some ⟨[], [1], []⟩ else bif Nat.beq id 2000002 then some ⟨[], [4], []⟩ else none
def laws_heldTraderS_Ls (n : Nat) : Nat → Option (LSpec T) := fun id => bif Nat.beq id 2 then some (laws_heldTraderS_2_sp n) else none
theorem laws_heldTraderS_2_le (n : Nat) : LoopEq (T := T) (Phi n 54) (laws_heldTraderS_Ls n) laws_heldTraderS_ann n laws_heldTraderS_2_c (laws_heldTraderS_2_sp n) := ⟨mkSpec_dec (fun y => rfl), fun c x => by kernel_rfl, fun K J c x => by kernel_rfl⟩
theorem laws_heldTraderS_tie (n : Nat) (a0 : List STrader) (k1 : Int) : evF (T := T) (Phi n 54) (laws_heldTraderS_Ls n) laws_heldTraderS_ann n Try.f152 (sg 152) [vA T 90 a0, vA T 3 k1] laws_heldTraderS_dec = laws_heldTraderS n a0 k1 := by kernel_rfl
theorem laws_heldTraderS_lo (n : Nat) : LoopsOk (T := T) (Phi n 54) (laws_heldTraderS_Ls n) laws_heldTraderS_ann n laws_heldTraderS_code := loopsOk_all (cs := [laws_heldTraderS_2_c]) (by kernel_rfl) ⟨⟨_, by kernel_rfl, laws_heldTraderS_2_le n⟩, trivial⟩
theorem laws_heldTraderS_ok (n : Nat) : EntOk Try.prog (ents n) (laws_heldTraderS_ent n) := by
  intro hs ar y hg h
  replace h : laws_heldTraderS_D n ar = some y := h
  unfold laws_heldTraderS_D at h
  replace h := ocons_some h
  obtain ⟨a0, r0, rfl, h⟩ := h
  replace h := ocons_some h
  obtain ⟨a1, r1, rfl, h⟩ := h
  replace h := onil_some h
  obtain ⟨rfl, h⟩ := h
  obtain ⟨a0, qh0, h⟩ := obind_some h
  obtain ⟨k1, qh1, h⟩ := obind_some h
  rw [argV_eq ok qh0, argV_eq ok qh1]
  exact call_of (phiE_nat _ _) hs ok mixed Try.func152 (c := laws_heldTraderS_code) (by kernel_rfl) (laws_heldTraderS_lo n) (by kernel_rfl) (by kernel_rfl) (by kernel_rfl) laws_heldTraderS_de ((laws_heldTraderS_tie n a0 k1).trans h)
noncomputable def laws_heldHouse_code : Code := match Try.f55.body with | some c => c | none => .skip
def laws_heldHouse_ann : Ann := fun id => none
def laws_heldHouse_Ls (n : Nat) : Nat → Option (LSpec T) := fun id => none
theorem laws_heldHouse_tie (n : Nat) (a0 : SHouse) (k1 : Int) : evF (T := T) (Phi n 55) (laws_heldHouse_Ls n) laws_heldHouse_ann n Try.f55 (sg 55) [vA T 92 a0, vA T 3 k1] laws_heldHouse_dec = laws_heldHouse n a0 k1 := by kernel_rfl
theorem laws_heldHouse_lo (n : Nat) : LoopsOk (T := T) (Phi n 55) (laws_heldHouse_Ls n) laws_heldHouse_ann n laws_heldHouse_code := loopsOk_all (cs := []) (by kernel_rfl) trivial
theorem laws_heldHouse_ok (n : Nat) : EntOk Try.prog (ents n) (laws_heldHouse_ent n) := by
  intro hs ar y hg h
  replace h : laws_heldHouse_D n ar = some y := h
  unfold laws_heldHouse_D at h
  replace h := ocons_some h
  obtain ⟨a0, r0, rfl, h⟩ := h
  replace h := ocons_some h
  obtain ⟨a1, r1, rfl, h⟩ := h
  replace h := onil_some h
  obtain ⟨rfl, h⟩ := h
  obtain ⟨a0, qh0, h⟩ := obind_some h
  obtain ⟨k1, qh1, h⟩ := obind_some h
  rw [argV_eq ok qh0, argV_eq ok qh1]
  exact call_of (phiE_nat _ _) hs ok mixed Try.func55 (c := laws_heldHouse_code) (by kernel_rfl) (laws_heldHouse_lo n) (by kernel_rfl) (by kernel_rfl) (by kernel_rfl) laws_heldHouse_de ((laws_heldHouse_tie n a0 k1).trans h)
noncomputable def laws_heldIntS_code : Code := match Try.f35.body with | some c => c | none => .skip
def laws_heldIntS_2_sv : List Sv := [.one (.arr 3), .one (.int .i64), .one (.int .i64)]
def laws_heldIntS_2_so : List So := []
def laws_heldIntS_2_emb (c : List Int) (x : Int × Int) : EVs T laws_heldIntS_2_sv × EOs T laws_heldIntS_2_so := ((c, x.1, x.2, ()), ())
def laws_heldIntS_2_prj (y : EVs T laws_heldIntS_2_sv × EOs T laws_heldIntS_2_so) : List Int × (Int × Int) := ((y.1.1), (y.1.2.1, y.1.2.2.1))
def laws_heldIntS_2_b (n : Nat) {R : Type} (K : Ex → Sm.St T → Option R) (c : List Int) (x : Int × Int) (J : (Int × Int) → Option R) : Option R :=
  laws_heldIntS_L2 n (fun (y0 : Int) => K (.exit 0) (stOf (T := T) [1] [] [.one (.int .i64)] [] (y0, ()) ())) (fun (y0 : Int) => K .ret (stOf (T := T) [4] [] [.one (.int .i64)] [] (y0, ()) ())) (fun z0 z1 => J (z0, z1)) c x.1 x.2
def laws_heldIntS_2_sp (n : Nat) : LSpec T := mkSpec T ⟨[], [0, 1, 5], []⟩ laws_heldIntS_2_sv laws_heldIntS_2_so (List Int) (Int × Int) laws_heldIntS_2_emb laws_heldIntS_2_prj (laws_heldIntS_2_b n)
noncomputable def laws_heldIntS_2_c : Code := ((loopCodes laws_heldIntS_code)[0]?).getD .skip
def laws_heldIntS_ann : Ann := fun id => bif Nat.beq id 3000002 then some ⟨[], [1], []⟩ else bif Nat.beq id 2000002 then some ⟨[], [4], []⟩ else none
def laws_heldIntS_Ls (n : Nat) : Nat → Option (LSpec T) := fun id => bif Nat.beq id 2 then some (laws_heldIntS_2_sp n) else none
theorem laws_heldIntS_2_le (n : Nat) : LoopEq (T := T) (Phi n 56) (laws_heldIntS_Ls n) laws_heldIntS_ann n laws_heldIntS_2_c (laws_heldIntS_2_sp n) := ⟨mkSpec_dec (fun y => rfl), fun c x => by kernel_rfl, fun K J c x => by kernel_rfl⟩
theorem laws_heldIntS_tie (n : Nat) (a0 : List Int) (k1 : Int) : evF (T := T) (Phi n 56) (laws_heldIntS_Ls n) laws_heldIntS_ann n Try.f35 (sg 35) [vA T 23 a0, vA T 3 k1] laws_heldIntS_dec = laws_heldIntS n a0 k1 := by kernel_rfl
theorem laws_heldIntS_lo (n : Nat) : LoopsOk (T := T) (Phi n 56) (laws_heldIntS_Ls n) laws_heldIntS_ann n laws_heldIntS_code := loopsOk_all (cs := [laws_heldIntS_2_c]) (by kernel_rfl) ⟨⟨_, by kernel_rfl, laws_heldIntS_2_le n⟩, trivial⟩
theorem laws_heldIntS_ok (n : Nat) : EntOk Try.prog (ents n) (laws_heldIntS_ent n) := by
  intro hs ar y hg h
  replace h : laws_heldIntS_D n ar = some y := h
  unfold laws_heldIntS_D at h
  replace h := ocons_some h
  obtain ⟨a0, r0, rfl, h⟩ := h
  replace h := ocons_some h
  obtain ⟨a1, r1, rfl, h⟩ := h
  replace h := onil_some h
  obtain ⟨rfl, h⟩ := h
  obtain ⟨a0, qh0, h⟩ := obind_some h
  obtain ⟨k1, qh1, h⟩ := obind_some h
  rw [argV_eq ok qh0, argV_eq ok qh1]
  exact call_of (phiE_nat _ _) hs ok mixed Try.func35 (c := laws_heldIntS_code) (by kernel_rfl) (laws_heldIntS_lo n) (by kernel_rfl) (by kernel_rfl) (by kernel_rfl) laws_heldIntS_de ((laws_heldIntS_tie n a0 k1).trans h)
noncomputable def laws_FnExactRunDeeds_code : Code := match Try.f9.body with | some c => c | none => .skip
def laws_FnExactRunDeeds_ann : Ann := fun id => none
def laws_FnExactRunDeeds_Ls (n : Nat) : Nat → Option (LSpec T) := fun id => none
theorem laws_FnExactRunDeeds_tie (n : Nat) (aH0 : SHouse) (aList1 : List SDeed) : evF (T := T) (Phi n 57) (laws_FnExactRunDeeds_Ls n) laws_FnExactRunDeeds_ann n Try.f9 (sg 9) [vA T 85 aH0, vA T 101 aList1] laws_FnExactRunDeeds_dec = laws_FnExactRunDeeds n aH0 aList1 := by kernel_rfl
theorem laws_FnExactRunDeeds_lo (n : Nat) : LoopsOk (T := T) (Phi n 57) (laws_FnExactRunDeeds_Ls n) laws_FnExactRunDeeds_ann n laws_FnExactRunDeeds_code := loopsOk_all (cs := []) (by kernel_rfl) trivial
theorem laws_FnExactRunDeeds_ok (n : Nat) : EntOk Try.prog (ents n) (laws_FnExactRunDeeds_ent n) := by
  intro hs ar y hg h
  replace h : laws_FnExactRunDeeds_D n ar = some y := h
  unfold laws_FnExactRunDeeds_D at h
  replace h := ocons_some h
  obtain ⟨a0, r0, rfl, h⟩ := h
  replace h := ocons_some h
  obtain ⟨a1, r1, rfl, h⟩ := h
  replace h := onil_some h
  obtain ⟨rfl, h⟩ := h
  obtain ⟨aH0, qh0, h⟩ := obind_some h
  obtain ⟨aList1, qh1, h⟩ := obind_some h
  rw [argV_eq ok qh0, argV_eq ok qh1]
  exact call_of (phiE_nat _ _) hs ok mixed Try.func9 (c := laws_FnExactRunDeeds_code) (by kernel_rfl) (laws_FnExactRunDeeds_lo n) (by kernel_rfl) (by kernel_rfl) (by kernel_rfl) laws_FnExactRunDeeds_de ((laws_FnExactRunDeeds_tie n aH0 aList1).trans h)
theorem entsOk (n : Nat) : EntsOk Try.prog (ents n) (ents n) := ⟨laws_szLotS_ok n, laws_szTraderS_ok n, laws_szHouse_ok n, laws_szDeedS_ok n, laws_toLot_ok n, laws_toLotS_ok n, laws_toTrader_ok n, laws_toTraderS_ok n, laws_toHouse_ok n, laws_toDeed_ok n, laws_toDeedS_ok n, spec_l16Copy_ok n, spec_l1In_ok n, spec_Duty6_ok n, spec_HouseOk_ok n, spec_l16Bad_ok n, spec_l16Find_ok n, spec_l16With_ok n, spec_l16From_ok n, spec_DoDeed_ok n, spec_RunDeeds_ok n, impl_own_impl_Lot_ok n, impl_own_impl_Trader_ok n, impl_House_own_ok n, impl_in_ok n, impl_idRight_ok n, impl_lotRight_ok n, impl_Duty6_ok n, impl_Lot_duty_ok n, impl_HouseOk_ok n, impl_House_lot_1_ok n, slices_IndexFunc_impl_Lot_impl_Lot__impl_House_lot_1_ok n, impl_House_lot_ok n, impl_DoDeed_1_ok n, impl_House_put_1_ok n, slices_SortFunc_impl_Lot_impl_Lot__impl_House_put_1_ok n, impl_House_put_ok n, impl_DoDeed_ok n, impl_own_int_ok n, impl_RunDeeds_ok n, laws_eqLot_ok n, laws_eqLotS_ok n, laws_eqTrader_ok n, laws_eqTraderS_ok n, laws_eqHouse_ok n, laws_eqIntS_ok n, laws_eqDeed_ok n, laws_eqDeedS_ok n, laws_markLotS_ok n, laws_markTraderS_ok n, laws_markHouse_ok n, laws_markDeedS_ok n, laws_markIntS_ok n, laws_heldLotS_ok n, laws_heldTraderS_ok n, laws_heldHouse_ok n, laws_heldIntS_ok n, laws_FnExactRunDeeds_ok n, trivial⟩
theorem sem (n i : Nat) : SemOk (Phi n i) (CallOk Try.prog T) := phiE_ok (entsOk n) i
end Go.Sm.D9
