import Derived.Test.YtefibegfcfbcjaaD13Tb
import Derived.KernelRfl
/- Each function's code computes what the plain function computes. -/
set_option linter.unusedSimpArgs false
set_option linter.deprecated false
set_option linter.unusedSectionVars false
set_option linter.unusedVariables false
set_option maxRecDepth 100000
open Go Go.Proofs
noncomputable section
namespace Go.Sm.D13
/-- By recursors, and of a greater height than all of the functions: the kernel takes these apart first. -/
def obind {α β : Type} (o : Option α) (f : α → Option β) : Option β := let _ := @laws_FnExactPortOk; Option.rec (motive := fun _ => Option β) none (fun a => f a) o
theorem obind_some {α β : Type} {o : Option α} {f : α → Option β} {y : β} (h : obind o f = some y) : ∃ a, o = some a ∧ f a = some y := by
  cases o with
  | none => cases h
  | some a => exact ⟨a, rfl, h⟩
def ocons {β : Type} (l : List (A T)) (f : A T → List (A T) → Option β) : Option β := let _ := @laws_FnExactPortOk; List.rec (motive := fun _ => Option β) none (fun a r _ => f a r) l
theorem ocons_some {β : Type} {l : List (A T)} {f : A T → List (A T) → Option β} {y : β} (h : ocons l f = some y) : ∃ a r, l = a :: r ∧ f a r = some y := by
  cases l with
  | nil => cases h
  | cons a r => exact ⟨a, r, rfl, h⟩
def onil {β : Type} (l : List (A T)) (x : Option β) : Option β := let _ := @laws_FnExactPortOk; List.rec (motive := fun _ => Option β) x (fun _ _ _ => none) l
theorem onil_some {β : Type} {l : List (A T)} {x : Option β} {y : β} (h : onil l x = some y) : l = [] ∧ x = some y := by
  cases l with
  | nil => exact ⟨rfl, h⟩
  | cons a r => cases h
def laws_szCallS_dec (res : Res T) : Option Int := match res.rets, res.outs with
  | [a0], [] => (retV (T := T) 3 a0).bind fun r0 => some (r0)
  | _, _ => none
def laws_szCallS_enc (y : Int) : Res T := ⟨[vR T 3 y], []⟩
theorem laws_szCallS_de (res : Res T) (y : Int) (h : laws_szCallS_dec res = some y) : res = laws_szCallS_enc y := by
  obtain ⟨rets, outs⟩ := res
  unfold laws_szCallS_dec at h
  dsimp only at h
  split at h
  · obtain ⟨r0, h0, h⟩ := Option.bind_eq_some_iff.1 h
    cases h
    rw [retV_eq ok h0]
    rfl
  · cases h
def laws_szIntS_dec (res : Res T) : Option Int := match res.rets, res.outs with
  | [a0], [] => (retV (T := T) 3 a0).bind fun r0 => some (r0)
  | _, _ => none
def laws_szIntS_enc (y : Int) : Res T := ⟨[vR T 3 y], []⟩
theorem laws_szIntS_de (res : Res T) (y : Int) (h : laws_szIntS_dec res = some y) : res = laws_szIntS_enc y := by
  obtain ⟨rets, outs⟩ := res
  unfold laws_szIntS_dec at h
  dsimp only at h
  split at h
  · obtain ⟨r0, h0, h⟩ := Option.bind_eq_some_iff.1 h
    cases h
    rw [retV_eq ok h0]
    rfl
  · cases h
def laws_szIntSS_dec (res : Res T) : Option Int := match res.rets, res.outs with
  | [a0], [] => (retV (T := T) 3 a0).bind fun r0 => some (r0)
  | _, _ => none
def laws_szIntSS_enc (y : Int) : Res T := ⟨[vR T 3 y], []⟩
theorem laws_szIntSS_de (res : Res T) (y : Int) (h : laws_szIntSS_dec res = some y) : res = laws_szIntSS_enc y := by
  obtain ⟨rets, outs⟩ := res
  unfold laws_szIntSS_dec at h
  dsimp only at h
  split at h
  · obtain ⟨r0, h0, h⟩ := Option.bind_eq_some_iff.1 h
    cases h
    rw [retV_eq ok h0]
    rfl
  · cases h
def laws_szYard_dec (res : Res T) : Option Int := match res.rets, res.outs with
  | [a0], [] => (retV (T := T) 3 a0).bind fun r0 => some (r0)
  | _, _ => none
def laws_szYard_enc (y : Int) : Res T := ⟨[vR T 3 y], []⟩
theorem laws_szYard_de (res : Res T) (y : Int) (h : laws_szYard_dec res = some y) : res = laws_szYard_enc y := by
  obtain ⟨rets, outs⟩ := res
  unfold laws_szYard_dec at h
  dsimp only at h
  split at h
  · obtain ⟨r0, h0, h⟩ := Option.bind_eq_some_iff.1 h
    cases h
    rw [retV_eq ok h0]
    rfl
  · cases h
def laws_szStringS_dec (res : Res T) : Option Int := match res.rets, res.outs with
  | [a0], [] => (retV (T := T) 3 a0).bind fun r0 => some (r0)
  | _, _ => none
def laws_szStringS_enc (y : Int) : Res T := ⟨[vR T 3 y], []⟩
theorem laws_szStringS_de (res : Res T) (y : Int) (h : laws_szStringS_dec res = some y) : res = laws_szStringS_enc y := by
  obtain ⟨rets, outs⟩ := res
  unfold laws_szStringS_dec at h
  dsimp only at h
  split at h
  · obtain ⟨r0, h0, h⟩ := Option.bind_eq_some_iff.1 h
    cases h
    rw [retV_eq ok h0]
    rfl
  · cases h
def laws_szBill_dec (res : Res T) : Option Int := match res.rets, res.outs with
  | [a0], [] => (retV (T := T) 3 a0).bind fun r0 => some (r0)
  | _, _ => none
def laws_szBill_enc (y : Int) : Res T := ⟨[vR T 3 y], []⟩
theorem laws_szBill_de (res : Res T) (y : Int) (h : laws_szBill_dec res = some y) : res = laws_szBill_enc y := by
  obtain ⟨rets, outs⟩ := res
  unfold laws_szBill_dec at h
  dsimp only at h
  split at h
  · obtain ⟨r0, h0, h⟩ := Option.bind_eq_some_iff.1 h
    cases h
    rw [retV_eq ok h0]
    rfl
  · cases h
def laws_szBillS_dec (res : Res T) : Option Int := match res.rets, res.outs with
  | [a0], [] => (retV (T := T) 3 a0).bind fun r0 => some (r0)
  | _, _ => none
def laws_szBillS_enc (y : Int) : Res T := ⟨[vR T 3 y], []⟩
theorem laws_szBillS_de (res : Res T) (y : Int) (h : laws_szBillS_dec res = some y) : res = laws_szBillS_enc y := by
  obtain ⟨rets, outs⟩ := res
  unfold laws_szBillS_dec at h
  dsimp only at h
  split at h
  · obtain ⟨r0, h0, h⟩ := Option.bind_eq_some_iff.1 h
    cases h
    rw [retV_eq ok h0]
    rfl
  · cases h
def laws_szBook_dec (res : Res T) : Option Int := match res.rets, res.outs with
  | [a0], [] => (retV (T := T) 3 a0).bind fun r0 => some (r0)
  | _, _ => none
def laws_szBook_enc (y : Int) : Res T := ⟨[vR T 3 y], []⟩
theorem laws_szBook_de (res : Res T) (y : Int) (h : laws_szBook_dec res = some y) : res = laws_szBook_enc y := by
  obtain ⟨rets, outs⟩ := res
  unfold laws_szBook_dec at h
  dsimp only at h
  split at h
  · obtain ⟨r0, h0, h⟩ := Option.bind_eq_some_iff.1 h
    cases h
    rw [retV_eq ok h0]
    rfl
  · cases h
def laws_szLotS_dec (res : Res T) : Option Int := match res.rets, res.outs with
  | [a0], [] => (retV (T := T) 3 a0).bind fun r0 => some (r0)
  | _, _ => none
def laws_szLotS_enc (y : Int) : Res T := ⟨[vR T 3 y], []⟩
theorem laws_szLotS_de (res : Res T) (y : Int) (h : laws_szLotS_dec res = some y) : res = laws_szLotS_enc y := by
  obtain ⟨rets, outs⟩ := res
  unfold laws_szLotS_dec at h
  dsimp only at h
  split at h
  · obtain ⟨r0, h0, h⟩ := Option.bind_eq_some_iff.1 h
    cases h
    rw [retV_eq ok h0]
    rfl
  · cases h
def laws_szTraderS_dec (res : Res T) : Option Int := match res.rets, res.outs with
  | [a0], [] => (retV (T := T) 3 a0).bind fun r0 => some (r0)
  | _, _ => none
def laws_szTraderS_enc (y : Int) : Res T := ⟨[vR T 3 y], []⟩
theorem laws_szTraderS_de (res : Res T) (y : Int) (h : laws_szTraderS_dec res = some y) : res = laws_szTraderS_enc y := by
  obtain ⟨rets, outs⟩ := res
  unfold laws_szTraderS_dec at h
  dsimp only at h
  split at h
  · obtain ⟨r0, h0, h⟩ := Option.bind_eq_some_iff.1 h
    cases h
    rw [retV_eq ok h0]
    rfl
  · cases h
def laws_szHouse_dec (res : Res T) : Option Int := match res.rets, res.outs with
  | [a0], [] => (retV (T := T) 3 a0).bind fun r0 => some (r0)
  | _, _ => none
def laws_szHouse_enc (y : Int) : Res T := ⟨[vR T 3 y], []⟩
theorem laws_szHouse_de (res : Res T) (y : Int) (h : laws_szHouse_dec res = some y) : res = laws_szHouse_enc y := by
  obtain ⟨rets, outs⟩ := res
  unfold laws_szHouse_dec at h
  dsimp only at h
  split at h
  · obtain ⟨r0, h0, h⟩ := Option.bind_eq_some_iff.1 h
    cases h
    rw [retV_eq ok h0]
    rfl
  · cases h
def laws_szPort_dec (res : Res T) : Option Int := match res.rets, res.outs with
  | [a0], [] => (retV (T := T) 3 a0).bind fun r0 => some (r0)
  | _, _ => none
def laws_szPort_enc (y : Int) : Res T := ⟨[vR T 3 y], []⟩
theorem laws_szPort_de (res : Res T) (y : Int) (h : laws_szPort_dec res = some y) : res = laws_szPort_enc y := by
  obtain ⟨rets, outs⟩ := res
  unfold laws_szPort_dec at h
  dsimp only at h
  split at h
  · obtain ⟨r0, h0, h⟩ := Option.bind_eq_some_iff.1 h
    cases h
    rw [retV_eq ok h0]
    rfl
  · cases h
def laws_toCall_dec (res : Res T) : Option SCall := match res.rets, res.outs with
  | [a0], [] => (retV (T := T) 126 a0).bind fun r0 => some (r0)
  | _, _ => none
def laws_toCall_enc (y : SCall) : Res T := ⟨[vR T 126 y], []⟩
theorem laws_toCall_de (res : Res T) (y : SCall) (h : laws_toCall_dec res = some y) : res = laws_toCall_enc y := by
  obtain ⟨rets, outs⟩ := res
  unfold laws_toCall_dec at h
  dsimp only at h
  split at h
  · obtain ⟨r0, h0, h⟩ := Option.bind_eq_some_iff.1 h
    cases h
    rw [retV_eq ok h0]
    rfl
  · cases h
def laws_toCallS_dec (res : Res T) : Option (List SCall) := match res.rets, res.outs with
  | [a0], [] => (retV (T := T) 119 a0).bind fun r0 => some (r0)
  | _, _ => none
def laws_toCallS_enc (y : List SCall) : Res T := ⟨[vR T 119 y], []⟩
theorem laws_toCallS_de (res : Res T) (y : List SCall) (h : laws_toCallS_dec res = some y) : res = laws_toCallS_enc y := by
  obtain ⟨rets, outs⟩ := res
  unfold laws_toCallS_dec at h
  dsimp only at h
  split at h
  · obtain ⟨r0, h0, h⟩ := Option.bind_eq_some_iff.1 h
    cases h
    rw [retV_eq ok h0]
    rfl
  · cases h
def laws_toIntS_dec (res : Res T) : Option (List Int) := match res.rets, res.outs with
  | [a0], [] => (retV (T := T) 23 a0).bind fun r0 => some (r0)
  | _, _ => none
def laws_toIntS_enc (y : List Int) : Res T := ⟨[vR T 23 y], []⟩
theorem laws_toIntS_de (res : Res T) (y : List Int) (h : laws_toIntS_dec res = some y) : res = laws_toIntS_enc y := by
  obtain ⟨rets, outs⟩ := res
  unfold laws_toIntS_dec at h
  dsimp only at h
  split at h
  · obtain ⟨r0, h0, h⟩ := Option.bind_eq_some_iff.1 h
    cases h
    rw [retV_eq ok h0]
    rfl
  · cases h
def laws_toIntSS_dec (res : Res T) : Option (List (List Int)) := match res.rets, res.outs with
  | [a0], [] => (retV (T := T) 35 a0).bind fun r0 => some (r0)
  | _, _ => none
def laws_toIntSS_enc (y : List (List Int)) : Res T := ⟨[vR T 35 y], []⟩
theorem laws_toIntSS_de (res : Res T) (y : List (List Int)) (h : laws_toIntSS_dec res = some y) : res = laws_toIntSS_enc y := by
  obtain ⟨rets, outs⟩ := res
  unfold laws_toIntSS_dec at h
  dsimp only at h
  split at h
  · obtain ⟨r0, h0, h⟩ := Option.bind_eq_some_iff.1 h
    cases h
    rw [retV_eq ok h0]
    rfl
  · cases h
def laws_toYard_dec (res : Res T) : Option SYard := match res.rets, res.outs with
  | [a0], [] => (retV (T := T) 41 a0).bind fun r0 => some (r0)
  | _, _ => none
def laws_toYard_enc (y : SYard) : Res T := ⟨[vR T 41 y], []⟩
theorem laws_toYard_de (res : Res T) (y : SYard) (h : laws_toYard_dec res = some y) : res = laws_toYard_enc y := by
  obtain ⟨rets, outs⟩ := res
  unfold laws_toYard_dec at h
  dsimp only at h
  split at h
  · obtain ⟨r0, h0, h⟩ := Option.bind_eq_some_iff.1 h
    cases h
    rw [retV_eq ok h0]
    rfl
  · cases h
def laws_toStringS_dec (res : Res T) : Option (List ByteArray) := match res.rets, res.outs with
  | [a0], [] => (retV (T := T) 77 a0).bind fun r0 => some (r0)
  | _, _ => none
def laws_toStringS_enc (y : List ByteArray) : Res T := ⟨[vR T 77 y], []⟩
theorem laws_toStringS_de (res : Res T) (y : List ByteArray) (h : laws_toStringS_dec res = some y) : res = laws_toStringS_enc y := by
  obtain ⟨rets, outs⟩ := res
  unfold laws_toStringS_dec at h
  dsimp only at h
  split at h
  · obtain ⟨r0, h0, h⟩ := Option.bind_eq_some_iff.1 h
    cases h
    rw [retV_eq ok h0]
    rfl
  · cases h
def laws_toBill_dec (res : Res T) : Option SBill := match res.rets, res.outs with
  | [a0], [] => (retV (T := T) 79 a0).bind fun r0 => some (r0)
  | _, _ => none
def laws_toBill_enc (y : SBill) : Res T := ⟨[vR T 79 y], []⟩
theorem laws_toBill_de (res : Res T) (y : SBill) (h : laws_toBill_dec res = some y) : res = laws_toBill_enc y := by
  obtain ⟨rets, outs⟩ := res
  unfold laws_toBill_dec at h
  dsimp only at h
  split at h
  · obtain ⟨r0, h0, h⟩ := Option.bind_eq_some_iff.1 h
    cases h
    rw [retV_eq ok h0]
    rfl
  · cases h
def laws_toBillS_dec (res : Res T) : Option (List SBill) := match res.rets, res.outs with
  | [a0], [] => (retV (T := T) 29 a0).bind fun r0 => some (r0)
  | _, _ => none
def laws_toBillS_enc (y : List SBill) : Res T := ⟨[vR T 29 y], []⟩
theorem laws_toBillS_de (res : Res T) (y : List SBill) (h : laws_toBillS_dec res = some y) : res = laws_toBillS_enc y := by
  obtain ⟨rets, outs⟩ := res
  unfold laws_toBillS_dec at h
  dsimp only at h
  split at h
  · obtain ⟨r0, h0, h⟩ := Option.bind_eq_some_iff.1 h
    cases h
    rw [retV_eq ok h0]
    rfl
  · cases h
def laws_toBook_dec (res : Res T) : Option SBook := match res.rets, res.outs with
  | [a0], [] => (retV (T := T) 31 a0).bind fun r0 => some (r0)
  | _, _ => none
def laws_toBook_enc (y : SBook) : Res T := ⟨[vR T 31 y], []⟩
theorem laws_toBook_de (res : Res T) (y : SBook) (h : laws_toBook_dec res = some y) : res = laws_toBook_enc y := by
  obtain ⟨rets, outs⟩ := res
  unfold laws_toBook_dec at h
  dsimp only at h
  split at h
  · obtain ⟨r0, h0, h⟩ := Option.bind_eq_some_iff.1 h
    cases h
    rw [retV_eq ok h0]
    rfl
  · cases h
def laws_toLot_dec (res : Res T) : Option SLot := match res.rets, res.outs with
  | [a0], [] => (retV (T := T) 116 a0).bind fun r0 => some (r0)
  | _, _ => none
def laws_toLot_enc (y : SLot) : Res T := ⟨[vR T 116 y], []⟩
theorem laws_toLot_de (res : Res T) (y : SLot) (h : laws_toLot_dec res = some y) : res = laws_toLot_enc y := by
  obtain ⟨rets, outs⟩ := res
  unfold laws_toLot_dec at h
  dsimp only at h
  split at h
  · obtain ⟨r0, h0, h⟩ := Option.bind_eq_some_iff.1 h
    cases h
    rw [retV_eq ok h0]
    rfl
  · cases h
def laws_toLotS_dec (res : Res T) : Option (List SLot) := match res.rets, res.outs with
  | [a0], [] => (retV (T := T) 89 a0).bind fun r0 => some (r0)
  | _, _ => none
def laws_toLotS_enc (y : List SLot) : Res T := ⟨[vR T 89 y], []⟩
theorem laws_toLotS_de (res : Res T) (y : List SLot) (h : laws_toLotS_dec res = some y) : res = laws_toLotS_enc y := by
  obtain ⟨rets, outs⟩ := res
  unfold laws_toLotS_dec at h
  dsimp only at h
  split at h
  · obtain ⟨r0, h0, h⟩ := Option.bind_eq_some_iff.1 h
    cases h
    rw [retV_eq ok h0]
    rfl
  · cases h
def laws_toTrader_dec (res : Res T) : Option STrader := match res.rets, res.outs with
  | [a0], [] => (retV (T := T) 114 a0).bind fun r0 => some (r0)
  | _, _ => none
def laws_toTrader_enc (y : STrader) : Res T := ⟨[vR T 114 y], []⟩
theorem laws_toTrader_de (res : Res T) (y : STrader) (h : laws_toTrader_dec res = some y) : res = laws_toTrader_enc y := by
  obtain ⟨rets, outs⟩ := res
  unfold laws_toTrader_dec at h
  dsimp only at h
  split at h
  · obtain ⟨r0, h0, h⟩ := Option.bind_eq_some_iff.1 h
    cases h
    rw [retV_eq ok h0]
    rfl
  · cases h
def laws_toTraderS_dec (res : Res T) : Option (List STrader) := match res.rets, res.outs with
  | [a0], [] => (retV (T := T) 90 a0).bind fun r0 => some (r0)
  | _, _ => none
def laws_toTraderS_enc (y : List STrader) : Res T := ⟨[vR T 90 y], []⟩
theorem laws_toTraderS_de (res : Res T) (y : List STrader) (h : laws_toTraderS_dec res = some y) : res = laws_toTraderS_enc y := by
  obtain ⟨rets, outs⟩ := res
  unfold laws_toTraderS_dec at h
  dsimp only at h
  split at h
  · obtain ⟨r0, h0, h⟩ := Option.bind_eq_some_iff.1 h
    cases h
    rw [retV_eq ok h0]
    rfl
  · cases h
def laws_toHouse_dec (res : Res T) : Option SHouse := match res.rets, res.outs with
  | [a0], [] => (retV (T := T) 92 a0).bind fun r0 => some (r0)
  | _, _ => none
def laws_toHouse_enc (y : SHouse) : Res T := ⟨[vR T 92 y], []⟩
theorem laws_toHouse_de (res : Res T) (y : SHouse) (h : laws_toHouse_dec res = some y) : res = laws_toHouse_enc y := by
  obtain ⟨rets, outs⟩ := res
  unfold laws_toHouse_dec at h
  dsimp only at h
  split at h
  · obtain ⟨r0, h0, h⟩ := Option.bind_eq_some_iff.1 h
    cases h
    rw [retV_eq ok h0]
    rfl
  · cases h
def laws_toPort_dec (res : Res T) : Option SPort := match res.rets, res.outs with
  | [a0], [] => (retV (T := T) 140 a0).bind fun r0 => some (r0)
  | _, _ => none
def laws_toPort_enc (y : SPort) : Res T := ⟨[vR T 140 y], []⟩
theorem laws_toPort_de (res : Res T) (y : SPort) (h : laws_toPort_dec res = some y) : res = laws_toPort_enc y := by
  obtain ⟨rets, outs⟩ := res
  unfold laws_toPort_dec at h
  dsimp only at h
  split at h
  · obtain ⟨r0, h0, h⟩ := Option.bind_eq_some_iff.1 h
    cases h
    rw [retV_eq ok h0]
    rfl
  · cases h
def spec_l17Meet_dec (res : Res T) : Option Bool := match res.rets, res.outs with
  | [a0], [] => (retV (T := T) 4 a0).bind fun r0 => some (r0)
  | _, _ => none
def spec_l17Meet_enc (y : Bool) : Res T := ⟨[vR T 4 y], []⟩
theorem spec_l17Meet_de (res : Res T) (y : Bool) (h : spec_l17Meet_dec res = some y) : res = spec_l17Meet_enc y := by
  obtain ⟨rets, outs⟩ := res
  unfold spec_l17Meet_dec at h
  dsimp only at h
  split at h
  · obtain ⟨r0, h0, h⟩ := Option.bind_eq_some_iff.1 h
    cases h
    rw [retV_eq ok h0]
    rfl
  · cases h
def spec_l1In_dec (res : Res T) : Option Bool := match res.rets, res.outs with
  | [a0], [] => (retV (T := T) 4 a0).bind fun r0 => some (r0)
  | _, _ => none
def spec_l1In_enc (y : Bool) : Res T := ⟨[vR T 4 y], []⟩
theorem spec_l1In_de (res : Res T) (y : Bool) (h : spec_l1In_dec res = some y) : res = spec_l1In_enc y := by
  obtain ⟨rets, outs⟩ := res
  unfold spec_l1In_dec at h
  dsimp only at h
  split at h
  · obtain ⟨r0, h0, h⟩ := Option.bind_eq_some_iff.1 h
    cases h
    rw [retV_eq ok h0]
    rfl
  · cases h
def spec_l1Minute_dec (res : Res T) : Option Bool := match res.rets, res.outs with
  | [a0], [] => (retV (T := T) 4 a0).bind fun r0 => some (r0)
  | _, _ => none
def spec_l1Minute_enc (y : Bool) : Res T := ⟨[vR T 4 y], []⟩
theorem spec_l1Minute_de (res : Res T) (y : Bool) (h : spec_l1Minute_dec res = some y) : res = spec_l1Minute_enc y := by
  obtain ⟨rets, outs⟩ := res
  unfold spec_l1Minute_dec at h
  dsimp only at h
  split at h
  · obtain ⟨r0, h0, h⟩ := Option.bind_eq_some_iff.1 h
    cases h
    rw [retV_eq ok h0]
    rfl
  · cases h
def spec_CallsOk_dec (res : Res T) : Option Bool := match res.rets, res.outs with
  | [a0], [] => (retV (T := T) 4 a0).bind fun r0 => some (r0)
  | _, _ => none
def spec_CallsOk_enc (y : Bool) : Res T := ⟨[vR T 4 y], []⟩
theorem spec_CallsOk_de (res : Res T) (y : Bool) (h : spec_CallsOk_dec res = some y) : res = spec_CallsOk_enc y := by
  obtain ⟨rets, outs⟩ := res
  unfold spec_CallsOk_dec at h
  dsimp only at h
  split at h
  · obtain ⟨r0, h0, h⟩ := Option.bind_eq_some_iff.1 h
    cases h
    rw [retV_eq ok h0]
    rfl
  · cases h
def spec_Clear17_dec (res : Res T) : Option Bool := match res.rets, res.outs with
  | [a0], [] => (retV (T := T) 4 a0).bind fun r0 => some (r0)
  | _, _ => none
def spec_Clear17_enc (y : Bool) : Res T := ⟨[vR T 4 y], []⟩
theorem spec_Clear17_de (res : Res T) (y : Bool) (h : spec_Clear17_dec res = some y) : res = spec_Clear17_enc y := by
  obtain ⟨rets, outs⟩ := res
  unfold spec_Clear17_dec at h
  dsimp only at h
  split at h
  · obtain ⟨r0, h0, h⟩ := Option.bind_eq_some_iff.1 h
    cases h
    rw [retV_eq ok h0]
    rfl
  · cases h
def spec_l18Count_dec (res : Res T) : Option Int := match res.rets, res.outs with
  | [a0], [] => (retV (T := T) 3 a0).bind fun r0 => some (r0)
  | _, _ => none
def spec_l18Count_enc (y : Int) : Res T := ⟨[vR T 3 y], []⟩
theorem spec_l18Count_de (res : Res T) (y : Int) (h : spec_l18Count_dec res = some y) : res = spec_l18Count_enc y := by
  obtain ⟨rets, outs⟩ := res
  unfold spec_l18Count_dec at h
  dsimp only at h
  split at h
  · obtain ⟨r0, h0, h⟩ := Option.bind_eq_some_iff.1 h
    cases h
    rw [retV_eq ok h0]
    rfl
  · cases h
def spec_YardOk_dec (res : Res T) : Option Bool := match res.rets, res.outs with
  | [a0], [] => (retV (T := T) 4 a0).bind fun r0 => some (r0)
  | _, _ => none
def spec_YardOk_enc (y : Bool) : Res T := ⟨[vR T 4 y], []⟩
theorem spec_YardOk_de (res : Res T) (y : Bool) (h : spec_YardOk_dec res = some y) : res = spec_YardOk_enc y := by
  obtain ⟨rets, outs⟩ := res
  unfold spec_YardOk_dec at h
  dsimp only at h
  split at h
  · obtain ⟨r0, h0, h⟩ := Option.bind_eq_some_iff.1 h
    cases h
    rw [retV_eq ok h0]
    rfl
  · cases h
def spec_l1Name_dec (res : Res T) : Option Bool := match res.rets, res.outs with
  | [a0], [] => (retV (T := T) 4 a0).bind fun r0 => some (r0)
  | _, _ => none
def spec_l1Name_enc (y : Bool) : Res T := ⟨[vR T 4 y], []⟩
theorem spec_l1Name_de (res : Res T) (y : Bool) (h : spec_l1Name_dec res = some y) : res = spec_l1Name_enc y := by
  obtain ⟨rets, outs⟩ := res
  unfold spec_l1Name_dec at h
  dsimp only at h
  split at h
  · obtain ⟨r0, h0, h⟩ := Option.bind_eq_some_iff.1 h
    cases h
    rw [retV_eq ok h0]
    rfl
  · cases h
def spec_l14Find_dec (res : Res T) : Option Int := match res.rets, res.outs with
  | [a0], [] => (retV (T := T) 3 a0).bind fun r0 => some (r0)
  | _, _ => none
def spec_l14Find_enc (y : Int) : Res T := ⟨[vR T 3 y], []⟩
theorem spec_l14Find_de (res : Res T) (y : Int) (h : spec_l14Find_dec res = some y) : res = spec_l14Find_enc y := by
  obtain ⟨rets, outs⟩ := res
  unfold spec_l14Find_dec at h
  dsimp only at h
  split at h
  · obtain ⟨r0, h0, h⟩ := Option.bind_eq_some_iff.1 h
    cases h
    rw [retV_eq ok h0]
    rfl
  · cases h
def spec_BookOk_dec (res : Res T) : Option Bool := match res.rets, res.outs with
  | [a0], [] => (retV (T := T) 4 a0).bind fun r0 => some (r0)
  | _, _ => none
def spec_BookOk_enc (y : Bool) : Res T := ⟨[vR T 4 y], []⟩
theorem spec_BookOk_de (res : Res T) (y : Bool) (h : spec_BookOk_dec res = some y) : res = spec_BookOk_enc y := by
  obtain ⟨rets, outs⟩ := res
  unfold spec_BookOk_dec at h
  dsimp only at h
  split at h
  · obtain ⟨r0, h0, h⟩ := Option.bind_eq_some_iff.1 h
    cases h
    rw [retV_eq ok h0]
    rfl
  · cases h
def spec_Duty6_dec (res : Res T) : Option (Int × Bool) := match res.rets, res.outs with
  | [a0, a1], [] => (retV (T := T) 3 a0).bind fun r0 => (retV (T := T) 4 a1).bind fun r1 => some (r0, r1)
  | _, _ => none
def spec_Duty6_enc (y : Int × Bool) : Res T := ⟨[vR T 3 y.1, vR T 4 y.2], []⟩
theorem spec_Duty6_de (res : Res T) (y : Int × Bool) (h : spec_Duty6_dec res = some y) : res = spec_Duty6_enc y := by
  obtain ⟨rets, outs⟩ := res
  unfold spec_Duty6_dec at h
  dsimp only at h
  split at h
  · obtain ⟨r0, h0, h⟩ := Option.bind_eq_some_iff.1 h
    obtain ⟨r1, h1, h⟩ := Option.bind_eq_some_iff.1 h
    cases h
    rw [retV_eq ok h0, retV_eq ok h1]
    rfl
  · cases h
def spec_HouseOk_dec (res : Res T) : Option Bool := match res.rets, res.outs with
  | [a0], [] => (retV (T := T) 4 a0).bind fun r0 => some (r0)
  | _, _ => none
def spec_HouseOk_enc (y : Bool) : Res T := ⟨[vR T 4 y], []⟩
theorem spec_HouseOk_de (res : Res T) (y : Bool) (h : spec_HouseOk_dec res = some y) : res = spec_HouseOk_enc y := by
  obtain ⟨rets, outs⟩ := res
  unfold spec_HouseOk_dec at h
  dsimp only at h
  split at h
  · obtain ⟨r0, h0, h⟩ := Option.bind_eq_some_iff.1 h
    cases h
    rw [retV_eq ok h0]
    rfl
  · cases h
def spec_PortOk_dec (res : Res T) : Option Bool := match res.rets, res.outs with
  | [a0], [] => (retV (T := T) 4 a0).bind fun r0 => some (r0)
  | _, _ => none
def spec_PortOk_enc (y : Bool) : Res T := ⟨[vR T 4 y], []⟩
theorem spec_PortOk_de (res : Res T) (y : Bool) (h : spec_PortOk_dec res = some y) : res = spec_PortOk_enc y := by
  obtain ⟨rets, outs⟩ := res
  unfold spec_PortOk_dec at h
  dsimp only at h
  split at h
  · obtain ⟨r0, h0, h⟩ := Option.bind_eq_some_iff.1 h
    cases h
    rw [retV_eq ok h0]
    rfl
  · cases h
def impl_in_dec (res : Res T) : Option Bool := match res.rets, res.outs with
  | [a0], [] => (retV (T := T) 4 a0).bind fun r0 => some (r0)
  | _, _ => none
def impl_in_enc (y : Bool) : Res T := ⟨[vR T 4 y], []⟩
theorem impl_in_de (res : Res T) (y : Bool) (h : impl_in_dec res = some y) : res = impl_in_enc y := by
  obtain ⟨rets, outs⟩ := res
  unfold impl_in_dec at h
  dsimp only at h
  split at h
  · obtain ⟨r0, h0, h⟩ := Option.bind_eq_some_iff.1 h
    cases h
    rw [retV_eq ok h0]
    rfl
  · cases h
def impl_idRight_dec (res : Res T) : Option Bool := match res.rets, res.outs with
  | [a0], [] => (retV (T := T) 4 a0).bind fun r0 => some (r0)
  | _, _ => none
def impl_idRight_enc (y : Bool) : Res T := ⟨[vR T 4 y], []⟩
theorem impl_idRight_de (res : Res T) (y : Bool) (h : impl_idRight_dec res = some y) : res = impl_idRight_enc y := by
  obtain ⟨rets, outs⟩ := res
  unfold impl_idRight_dec at h
  dsimp only at h
  split at h
  · obtain ⟨r0, h0, h⟩ := Option.bind_eq_some_iff.1 h
    cases h
    rw [retV_eq ok h0]
    rfl
  · cases h
def impl_minuteOk_dec (res : Res T) : Option Bool := match res.rets, res.outs with
  | [a0], [] => (retV (T := T) 4 a0).bind fun r0 => some (r0)
  | _, _ => none
def impl_minuteOk_enc (y : Bool) : Res T := ⟨[vR T 4 y], []⟩
theorem impl_minuteOk_de (res : Res T) (y : Bool) (h : impl_minuteOk_dec res = some y) : res = impl_minuteOk_enc y := by
  obtain ⟨rets, outs⟩ := res
  unfold impl_minuteOk_dec at h
  dsimp only at h
  split at h
  · obtain ⟨r0, h0, h⟩ := Option.bind_eq_some_iff.1 h
    cases h
    rw [retV_eq ok h0]
    rfl
  · cases h
def impl_callOk_dec (res : Res T) : Option Bool := match res.rets, res.outs with
  | [a0], [] => (retV (T := T) 4 a0).bind fun r0 => some (r0)
  | _, _ => none
def impl_callOk_enc (y : Bool) : Res T := ⟨[vR T 4 y], []⟩
theorem impl_callOk_de (res : Res T) (y : Bool) (h : impl_callOk_dec res = some y) : res = impl_callOk_enc y := by
  obtain ⟨rets, outs⟩ := res
  unfold impl_callOk_dec at h
  dsimp only at h
  split at h
  · obtain ⟨r0, h0, h⟩ := Option.bind_eq_some_iff.1 h
    cases h
    rw [retV_eq ok h0]
    rfl
  · cases h
def impl_CallsOk_dec (res : Res T) : Option Bool := match res.rets, res.outs with
  | [a0], [] => (retV (T := T) 4 a0).bind fun r0 => some (r0)
  | _, _ => none
def impl_CallsOk_enc (y : Bool) : Res T := ⟨[vR T 4 y], []⟩
theorem impl_CallsOk_de (res : Res T) (y : Bool) (h : impl_CallsOk_dec res = some y) : res = impl_CallsOk_enc y := by
  obtain ⟨rets, outs⟩ := res
  unfold impl_CallsOk_dec at h
  dsimp only at h
  split at h
  · obtain ⟨r0, h0, h⟩ := Option.bind_eq_some_iff.1 h
    cases h
    rw [retV_eq ok h0]
    rfl
  · cases h
def impl_shares_dec (res : Res T) : Option Bool := match res.rets, res.outs with
  | [a0], [] => (retV (T := T) 4 a0).bind fun r0 => some (r0)
  | _, _ => none
def impl_shares_enc (y : Bool) : Res T := ⟨[vR T 4 y], []⟩
theorem impl_shares_de (res : Res T) (y : Bool) (h : impl_shares_dec res = some y) : res = impl_shares_enc y := by
  obtain ⟨rets, outs⟩ := res
  unfold impl_shares_dec at h
  dsimp only at h
  split at h
  · obtain ⟨r0, h0, h⟩ := Option.bind_eq_some_iff.1 h
    cases h
    rw [retV_eq ok h0]
    rfl
  · cases h
def impl_Clear17_1_dec (res : Res T) : Option Bool := match res.rets, res.outs with
  | [a0], [] => (retV (T := T) 4 a0).bind fun r0 => some (r0)
  | _, _ => none
def impl_Clear17_1_enc (y : Bool) : Res T := ⟨[vR T 4 y], []⟩
theorem impl_Clear17_1_de (res : Res T) (y : Bool) (h : impl_Clear17_1_dec res = some y) : res = impl_Clear17_1_enc y := by
  obtain ⟨rets, outs⟩ := res
  unfold impl_Clear17_1_dec at h
  dsimp only at h
  split at h
  · obtain ⟨r0, h0, h⟩ := Option.bind_eq_some_iff.1 h
    cases h
    rw [retV_eq ok h0]
    rfl
  · cases h
def slices_IndexFunc_impl_Call_impl_Call__impl_Clear17_1_dec (res : Res T) : Option Int := match res.rets, res.outs with
  | [a0], [] => (retV (T := T) 3 a0).bind fun r0 => some (r0)
  | _, _ => none
def slices_IndexFunc_impl_Call_impl_Call__impl_Clear17_1_enc (y : Int) : Res T := ⟨[vR T 3 y], []⟩
theorem slices_IndexFunc_impl_Call_impl_Call__impl_Clear17_1_de (res : Res T) (y : Int) (h : slices_IndexFunc_impl_Call_impl_Call__impl_Clear17_1_dec res = some y) : res = slices_IndexFunc_impl_Call_impl_Call__impl_Clear17_1_enc y := by
  obtain ⟨rets, outs⟩ := res
  unfold slices_IndexFunc_impl_Call_impl_Call__impl_Clear17_1_dec at h
  dsimp only at h
  split at h
  · obtain ⟨r0, h0, h⟩ := Option.bind_eq_some_iff.1 h
    cases h
    rw [retV_eq ok h0]
    rfl
  · cases h
def slices_ContainsFunc_impl_Call_impl_Call__impl_Clear17_1_dec (res : Res T) : Option Bool := match res.rets, res.outs with
  | [a0], [] => (retV (T := T) 4 a0).bind fun r0 => some (r0)
  | _, _ => none
def slices_ContainsFunc_impl_Call_impl_Call__impl_Clear17_1_enc (y : Bool) : Res T := ⟨[vR T 4 y], []⟩
theorem slices_ContainsFunc_impl_Call_impl_Call__impl_Clear17_1_de (res : Res T) (y : Bool) (h : slices_ContainsFunc_impl_Call_impl_Call__impl_Clear17_1_dec res = some y) : res = slices_ContainsFunc_impl_Call_impl_Call__impl_Clear17_1_enc y := by
  obtain ⟨rets, outs⟩ := res
  unfold slices_ContainsFunc_impl_Call_impl_Call__impl_Clear17_1_dec at h
  dsimp only at h
  split at h
  · obtain ⟨r0, h0, h⟩ := Option.bind_eq_some_iff.1 h
    cases h
    rw [retV_eq ok h0]
    rfl
  · cases h
def impl_Clear17_dec (res : Res T) : Option Bool := match res.rets, res.outs with
  | [a0], [] => (retV (T := T) 4 a0).bind fun r0 => some (r0)
  | _, _ => none
def impl_Clear17_enc (y : Bool) : Res T := ⟨[vR T 4 y], []⟩
theorem impl_Clear17_de (res : Res T) (y : Bool) (h : impl_Clear17_dec res = some y) : res = impl_Clear17_enc y := by
  obtain ⟨rets, outs⟩ := res
  unfold impl_Clear17_dec at h
  dsimp only at h
  split at h
  · obtain ⟨r0, h0, h⟩ := Option.bind_eq_some_iff.1 h
    cases h
    rw [retV_eq ok h0]
    rfl
  · cases h
def impl_YardOk_dec (res : Res T) : Option Bool := match res.rets, res.outs with
  | [a0], [] => (retV (T := T) 4 a0).bind fun r0 => some (r0)
  | _, _ => none
def impl_YardOk_enc (y : Bool) : Res T := ⟨[vR T 4 y], []⟩
theorem impl_YardOk_de (res : Res T) (y : Bool) (h : impl_YardOk_dec res = some y) : res = impl_YardOk_enc y := by
  obtain ⟨rets, outs⟩ := res
  unfold impl_YardOk_dec at h
  dsimp only at h
  split at h
  · obtain ⟨r0, h0, h⟩ := Option.bind_eq_some_iff.1 h
    cases h
    rw [retV_eq ok h0]
    rfl
  · cases h
def impl_nameOk_dec (res : Res T) : Option Bool := match res.rets, res.outs with
  | [a0], [] => (retV (T := T) 4 a0).bind fun r0 => some (r0)
  | _, _ => none
def impl_nameOk_enc (y : Bool) : Res T := ⟨[vR T 4 y], []⟩
theorem impl_nameOk_de (res : Res T) (y : Bool) (h : impl_nameOk_dec res = some y) : res = impl_nameOk_enc y := by
  obtain ⟨rets, outs⟩ := res
  unfold impl_nameOk_dec at h
  dsimp only at h
  split at h
  · obtain ⟨r0, h0, h⟩ := Option.bind_eq_some_iff.1 h
    cases h
    rw [retV_eq ok h0]
    rfl
  · cases h
def impl_emptyOrName_dec (res : Res T) : Option Bool := match res.rets, res.outs with
  | [a0], [] => (retV (T := T) 4 a0).bind fun r0 => some (r0)
  | _, _ => none
def impl_emptyOrName_enc (y : Bool) : Res T := ⟨[vR T 4 y], []⟩
theorem impl_emptyOrName_de (res : Res T) (y : Bool) (h : impl_emptyOrName_dec res = some y) : res = impl_emptyOrName_enc y := by
  obtain ⟨rets, outs⟩ := res
  unfold impl_emptyOrName_dec at h
  dsimp only at h
  split at h
  · obtain ⟨r0, h0, h⟩ := Option.bind_eq_some_iff.1 h
    cases h
    rw [retV_eq ok h0]
    rfl
  · cases h
def impl_BookOk_1_dec (res : Res T) : Option Bool := match res.rets, res.outs with
  | [a0], [] => (retV (T := T) 4 a0).bind fun r0 => some (r0)
  | _, _ => none
def impl_BookOk_1_enc (y : Bool) : Res T := ⟨[vR T 4 y], []⟩
theorem impl_BookOk_1_de (res : Res T) (y : Bool) (h : impl_BookOk_1_dec res = some y) : res = impl_BookOk_1_enc y := by
  obtain ⟨rets, outs⟩ := res
  unfold impl_BookOk_1_dec at h
  dsimp only at h
  split at h
  · obtain ⟨r0, h0, h⟩ := Option.bind_eq_some_iff.1 h
    cases h
    rw [retV_eq ok h0]
    rfl
  · cases h
def slices_IndexFunc_string_string__impl_BookOk_1_dec (res : Res T) : Option Int := match res.rets, res.outs with
  | [a0], [] => (retV (T := T) 3 a0).bind fun r0 => some (r0)
  | _, _ => none
def slices_IndexFunc_string_string__impl_BookOk_1_enc (y : Int) : Res T := ⟨[vR T 3 y], []⟩
theorem slices_IndexFunc_string_string__impl_BookOk_1_de (res : Res T) (y : Int) (h : slices_IndexFunc_string_string__impl_BookOk_1_dec res = some y) : res = slices_IndexFunc_string_string__impl_BookOk_1_enc y := by
  obtain ⟨rets, outs⟩ := res
  unfold slices_IndexFunc_string_string__impl_BookOk_1_dec at h
  dsimp only at h
  split at h
  · obtain ⟨r0, h0, h⟩ := Option.bind_eq_some_iff.1 h
    cases h
    rw [retV_eq ok h0]
    rfl
  · cases h
def slices_ContainsFunc_string_string__impl_BookOk_1_dec (res : Res T) : Option Bool := match res.rets, res.outs with
  | [a0], [] => (retV (T := T) 4 a0).bind fun r0 => some (r0)
  | _, _ => none
def slices_ContainsFunc_string_string__impl_BookOk_1_enc (y : Bool) : Res T := ⟨[vR T 4 y], []⟩
theorem slices_ContainsFunc_string_string__impl_BookOk_1_de (res : Res T) (y : Bool) (h : slices_ContainsFunc_string_string__impl_BookOk_1_dec res = some y) : res = slices_ContainsFunc_string_string__impl_BookOk_1_enc y := by
  obtain ⟨rets, outs⟩ := res
  unfold slices_ContainsFunc_string_string__impl_BookOk_1_dec at h
  dsimp only at h
  split at h
  · obtain ⟨r0, h0, h⟩ := Option.bind_eq_some_iff.1 h
    cases h
    rw [retV_eq ok h0]
    rfl
  · cases h
def impl_BookOk_dec (res : Res T) : Option Bool := match res.rets, res.outs with
  | [a0], [] => (retV (T := T) 4 a0).bind fun r0 => some (r0)
  | _, _ => none
def impl_BookOk_enc (y : Bool) : Res T := ⟨[vR T 4 y], []⟩
theorem impl_BookOk_de (res : Res T) (y : Bool) (h : impl_BookOk_dec res = some y) : res = impl_BookOk_enc y := by
  obtain ⟨rets, outs⟩ := res
  unfold impl_BookOk_dec at h
  dsimp only at h
  split at h
  · obtain ⟨r0, h0, h⟩ := Option.bind_eq_some_iff.1 h
    cases h
    rw [retV_eq ok h0]
    rfl
  · cases h
def impl_lotRight_dec (res : Res T) : Option Bool := match res.rets, res.outs with
  | [a0], [] => (retV (T := T) 4 a0).bind fun r0 => some (r0)
  | _, _ => none
def impl_lotRight_enc (y : Bool) : Res T := ⟨[vR T 4 y], []⟩
theorem impl_lotRight_de (res : Res T) (y : Bool) (h : impl_lotRight_dec res = some y) : res = impl_lotRight_enc y := by
  obtain ⟨rets, outs⟩ := res
  unfold impl_lotRight_dec at h
  dsimp only at h
  split at h
  · obtain ⟨r0, h0, h⟩ := Option.bind_eq_some_iff.1 h
    cases h
    rw [retV_eq ok h0]
    rfl
  · cases h
def impl_Duty6_dec (res : Res T) : Option (Int × Bool) := match res.rets, res.outs with
  | [a0, a1], [] => (retV (T := T) 3 a0).bind fun r0 => (retV (T := T) 4 a1).bind fun r1 => some (r0, r1)
  | _, _ => none
def impl_Duty6_enc (y : Int × Bool) : Res T := ⟨[vR T 3 y.1, vR T 4 y.2], []⟩
theorem impl_Duty6_de (res : Res T) (y : Int × Bool) (h : impl_Duty6_dec res = some y) : res = impl_Duty6_enc y := by
  obtain ⟨rets, outs⟩ := res
  unfold impl_Duty6_dec at h
  dsimp only at h
  split at h
  · obtain ⟨r0, h0, h⟩ := Option.bind_eq_some_iff.1 h
    obtain ⟨r1, h1, h⟩ := Option.bind_eq_some_iff.1 h
    cases h
    rw [retV_eq ok h0, retV_eq ok h1]
    rfl
  · cases h
def impl_Lot_duty_dec (res : Res T) : Option Int := match res.rets, res.outs with
  | [a0], [] => (retV (T := T) 3 a0).bind fun r0 => some (r0)
  | _, _ => none
def impl_Lot_duty_enc (y : Int) : Res T := ⟨[vR T 3 y], []⟩
theorem impl_Lot_duty_de (res : Res T) (y : Int) (h : impl_Lot_duty_dec res = some y) : res = impl_Lot_duty_enc y := by
  obtain ⟨rets, outs⟩ := res
  unfold impl_Lot_duty_dec at h
  dsimp only at h
  split at h
  · obtain ⟨r0, h0, h⟩ := Option.bind_eq_some_iff.1 h
    cases h
    rw [retV_eq ok h0]
    rfl
  · cases h
def impl_HouseOk_dec (res : Res T) : Option Bool := match res.rets, res.outs with
  | [a0], [] => (retV (T := T) 4 a0).bind fun r0 => some (r0)
  | _, _ => none
def impl_HouseOk_enc (y : Bool) : Res T := ⟨[vR T 4 y], []⟩
theorem impl_HouseOk_de (res : Res T) (y : Bool) (h : impl_HouseOk_dec res = some y) : res = impl_HouseOk_enc y := by
  obtain ⟨rets, outs⟩ := res
  unfold impl_HouseOk_dec at h
  dsimp only at h
  split at h
  · obtain ⟨r0, h0, h⟩ := Option.bind_eq_some_iff.1 h
    cases h
    rw [retV_eq ok h0]
    rfl
  · cases h
def impl_PortOk_dec (res : Res T) : Option Bool := match res.rets, res.outs with
  | [a0], [] => (retV (T := T) 4 a0).bind fun r0 => some (r0)
  | _, _ => none
def impl_PortOk_enc (y : Bool) : Res T := ⟨[vR T 4 y], []⟩
theorem impl_PortOk_de (res : Res T) (y : Bool) (h : impl_PortOk_dec res = some y) : res = impl_PortOk_enc y := by
  obtain ⟨rets, outs⟩ := res
  unfold impl_PortOk_dec at h
  dsimp only at h
  split at h
  · obtain ⟨r0, h0, h⟩ := Option.bind_eq_some_iff.1 h
    cases h
    rw [retV_eq ok h0]
    rfl
  · cases h
def laws_eqCall_dec (res : Res T) : Option Bool := match res.rets, res.outs with
  | [a0], [] => (retV (T := T) 4 a0).bind fun r0 => some (r0)
  | _, _ => none
def laws_eqCall_enc (y : Bool) : Res T := ⟨[vR T 4 y], []⟩
theorem laws_eqCall_de (res : Res T) (y : Bool) (h : laws_eqCall_dec res = some y) : res = laws_eqCall_enc y := by
  obtain ⟨rets, outs⟩ := res
  unfold laws_eqCall_dec at h
  dsimp only at h
  split at h
  · obtain ⟨r0, h0, h⟩ := Option.bind_eq_some_iff.1 h
    cases h
    rw [retV_eq ok h0]
    rfl
  · cases h
def laws_eqCallS_dec (res : Res T) : Option Bool := match res.rets, res.outs with
  | [a0], [] => (retV (T := T) 4 a0).bind fun r0 => some (r0)
  | _, _ => none
def laws_eqCallS_enc (y : Bool) : Res T := ⟨[vR T 4 y], []⟩
theorem laws_eqCallS_de (res : Res T) (y : Bool) (h : laws_eqCallS_dec res = some y) : res = laws_eqCallS_enc y := by
  obtain ⟨rets, outs⟩ := res
  unfold laws_eqCallS_dec at h
  dsimp only at h
  split at h
  · obtain ⟨r0, h0, h⟩ := Option.bind_eq_some_iff.1 h
    cases h
    rw [retV_eq ok h0]
    rfl
  · cases h
def laws_eqIntS_dec (res : Res T) : Option Bool := match res.rets, res.outs with
  | [a0], [] => (retV (T := T) 4 a0).bind fun r0 => some (r0)
  | _, _ => none
def laws_eqIntS_enc (y : Bool) : Res T := ⟨[vR T 4 y], []⟩
theorem laws_eqIntS_de (res : Res T) (y : Bool) (h : laws_eqIntS_dec res = some y) : res = laws_eqIntS_enc y := by
  obtain ⟨rets, outs⟩ := res
  unfold laws_eqIntS_dec at h
  dsimp only at h
  split at h
  · obtain ⟨r0, h0, h⟩ := Option.bind_eq_some_iff.1 h
    cases h
    rw [retV_eq ok h0]
    rfl
  · cases h
def laws_eqIntSS_dec (res : Res T) : Option Bool := match res.rets, res.outs with
  | [a0], [] => (retV (T := T) 4 a0).bind fun r0 => some (r0)
  | _, _ => none
def laws_eqIntSS_enc (y : Bool) : Res T := ⟨[vR T 4 y], []⟩
theorem laws_eqIntSS_de (res : Res T) (y : Bool) (h : laws_eqIntSS_dec res = some y) : res = laws_eqIntSS_enc y := by
  obtain ⟨rets, outs⟩ := res
  unfold laws_eqIntSS_dec at h
  dsimp only at h
  split at h
  · obtain ⟨r0, h0, h⟩ := Option.bind_eq_some_iff.1 h
    cases h
    rw [retV_eq ok h0]
    rfl
  · cases h
def laws_eqYard_dec (res : Res T) : Option Bool := match res.rets, res.outs with
  | [a0], [] => (retV (T := T) 4 a0).bind fun r0 => some (r0)
  | _, _ => none
def laws_eqYard_enc (y : Bool) : Res T := ⟨[vR T 4 y], []⟩
theorem laws_eqYard_de (res : Res T) (y : Bool) (h : laws_eqYard_dec res = some y) : res = laws_eqYard_enc y := by
  obtain ⟨rets, outs⟩ := res
  unfold laws_eqYard_dec at h
  dsimp only at h
  split at h
  · obtain ⟨r0, h0, h⟩ := Option.bind_eq_some_iff.1 h
    cases h
    rw [retV_eq ok h0]
    rfl
  · cases h
def laws_eqStringS_dec (res : Res T) : Option Bool := match res.rets, res.outs with
  | [a0], [] => (retV (T := T) 4 a0).bind fun r0 => some (r0)
  | _, _ => none
def laws_eqStringS_enc (y : Bool) : Res T := ⟨[vR T 4 y], []⟩
theorem laws_eqStringS_de (res : Res T) (y : Bool) (h : laws_eqStringS_dec res = some y) : res = laws_eqStringS_enc y := by
  obtain ⟨rets, outs⟩ := res
  unfold laws_eqStringS_dec at h
  dsimp only at h
  split at h
  · obtain ⟨r0, h0, h⟩ := Option.bind_eq_some_iff.1 h
    cases h
    rw [retV_eq ok h0]
    rfl
  · cases h
def laws_eqBill_dec (res : Res T) : Option Bool := match res.rets, res.outs with
  | [a0], [] => (retV (T := T) 4 a0).bind fun r0 => some (r0)
  | _, _ => none
def laws_eqBill_enc (y : Bool) : Res T := ⟨[vR T 4 y], []⟩
theorem laws_eqBill_de (res : Res T) (y : Bool) (h : laws_eqBill_dec res = some y) : res = laws_eqBill_enc y := by
  obtain ⟨rets, outs⟩ := res
  unfold laws_eqBill_dec at h
  dsimp only at h
  split at h
  · obtain ⟨r0, h0, h⟩ := Option.bind_eq_some_iff.1 h
    cases h
    rw [retV_eq ok h0]
    rfl
  · cases h
def laws_eqBillS_dec (res : Res T) : Option Bool := match res.rets, res.outs with
  | [a0], [] => (retV (T := T) 4 a0).bind fun r0 => some (r0)
  | _, _ => none
def laws_eqBillS_enc (y : Bool) : Res T := ⟨[vR T 4 y], []⟩
theorem laws_eqBillS_de (res : Res T) (y : Bool) (h : laws_eqBillS_dec res = some y) : res = laws_eqBillS_enc y := by
  obtain ⟨rets, outs⟩ := res
  unfold laws_eqBillS_dec at h
  dsimp only at h
  split at h
  · obtain ⟨r0, h0, h⟩ := Option.bind_eq_some_iff.1 h
    cases h
    rw [retV_eq ok h0]
    rfl
  · cases h
def laws_eqBook_dec (res : Res T) : Option Bool := match res.rets, res.outs with
  | [a0], [] => (retV (T := T) 4 a0).bind fun r0 => some (r0)
  | _, _ => none
def laws_eqBook_enc (y : Bool) : Res T := ⟨[vR T 4 y], []⟩
theorem laws_eqBook_de (res : Res T) (y : Bool) (h : laws_eqBook_dec res = some y) : res = laws_eqBook_enc y := by
  obtain ⟨rets, outs⟩ := res
  unfold laws_eqBook_dec at h
  dsimp only at h
  split at h
  · obtain ⟨r0, h0, h⟩ := Option.bind_eq_some_iff.1 h
    cases h
    rw [retV_eq ok h0]
    rfl
  · cases h
def laws_eqLot_dec (res : Res T) : Option Bool := match res.rets, res.outs with
  | [a0], [] => (retV (T := T) 4 a0).bind fun r0 => some (r0)
  | _, _ => none
def laws_eqLot_enc (y : Bool) : Res T := ⟨[vR T 4 y], []⟩
theorem laws_eqLot_de (res : Res T) (y : Bool) (h : laws_eqLot_dec res = some y) : res = laws_eqLot_enc y := by
  obtain ⟨rets, outs⟩ := res
  unfold laws_eqLot_dec at h
  dsimp only at h
  split at h
  · obtain ⟨r0, h0, h⟩ := Option.bind_eq_some_iff.1 h
    cases h
    rw [retV_eq ok h0]
    rfl
  · cases h
def laws_eqLotS_dec (res : Res T) : Option Bool := match res.rets, res.outs with
  | [a0], [] => (retV (T := T) 4 a0).bind fun r0 => some (r0)
  | _, _ => none
def laws_eqLotS_enc (y : Bool) : Res T := ⟨[vR T 4 y], []⟩
theorem laws_eqLotS_de (res : Res T) (y : Bool) (h : laws_eqLotS_dec res = some y) : res = laws_eqLotS_enc y := by
  obtain ⟨rets, outs⟩ := res
  unfold laws_eqLotS_dec at h
  dsimp only at h
  split at h
  · obtain ⟨r0, h0, h⟩ := Option.bind_eq_some_iff.1 h
    cases h
    rw [retV_eq ok h0]
    rfl
  · cases h
def laws_eqTrader_dec (res : Res T) : Option Bool := match res.rets, res.outs with
  | [a0], [] => (retV (T := T) 4 a0).bind fun r0 => some (r0)
  | _, _ => none
def laws_eqTrader_enc (y : Bool) : Res T := ⟨[vR T 4 y], []⟩
theorem laws_eqTrader_de (res : Res T) (y : Bool) (h : laws_eqTrader_dec res = some y) : res = laws_eqTrader_enc y := by
  obtain ⟨rets, outs⟩ := res
  unfold laws_eqTrader_dec at h
  dsimp only at h
  split at h
  · obtain ⟨r0, h0, h⟩ := Option.bind_eq_some_iff.1 h
    cases h
    rw [retV_eq ok h0]
    rfl
  · cases h
def laws_eqTraderS_dec (res : Res T) : Option Bool := match res.rets, res.outs with
  | [a0], [] => (retV (T := T) 4 a0).bind fun r0 => some (r0)
  | _, _ => none
def laws_eqTraderS_enc (y : Bool) : Res T := ⟨[vR T 4 y], []⟩
theorem laws_eqTraderS_de (res : Res T) (y : Bool) (h : laws_eqTraderS_dec res = some y) : res = laws_eqTraderS_enc y := by
  obtain ⟨rets, outs⟩ := res
  unfold laws_eqTraderS_dec at h
  dsimp only at h
  split at h
  · obtain ⟨r0, h0, h⟩ := Option.bind_eq_some_iff.1 h
    cases h
    rw [retV_eq ok h0]
    rfl
  · cases h
def laws_eqHouse_dec (res : Res T) : Option Bool := match res.rets, res.outs with
  | [a0], [] => (retV (T := T) 4 a0).bind fun r0 => some (r0)
  | _, _ => none
def laws_eqHouse_enc (y : Bool) : Res T := ⟨[vR T 4 y], []⟩
theorem laws_eqHouse_de (res : Res T) (y : Bool) (h : laws_eqHouse_dec res = some y) : res = laws_eqHouse_enc y := by
  obtain ⟨rets, outs⟩ := res
  unfold laws_eqHouse_dec at h
  dsimp only at h
  split at h
  · obtain ⟨r0, h0, h⟩ := Option.bind_eq_some_iff.1 h
    cases h
    rw [retV_eq ok h0]
    rfl
  · cases h
def laws_eqPort_dec (res : Res T) : Option Bool := match res.rets, res.outs with
  | [a0], [] => (retV (T := T) 4 a0).bind fun r0 => some (r0)
  | _, _ => none
def laws_eqPort_enc (y : Bool) : Res T := ⟨[vR T 4 y], []⟩
theorem laws_eqPort_de (res : Res T) (y : Bool) (h : laws_eqPort_dec res = some y) : res = laws_eqPort_enc y := by
  obtain ⟨rets, outs⟩ := res
  unfold laws_eqPort_dec at h
  dsimp only at h
  split at h
  · obtain ⟨r0, h0, h⟩ := Option.bind_eq_some_iff.1 h
    cases h
    rw [retV_eq ok h0]
    rfl
  · cases h
def laws_FnExactPortOk_dec (res : Res T) : Option Bool := match res.rets, res.outs with
  | [a0], [] => (retV (T := T) 4 a0).bind fun r0 => some (r0)
  | _, _ => none
def laws_FnExactPortOk_enc (y : Bool) : Res T := ⟨[vR T 4 y], []⟩
theorem laws_FnExactPortOk_de (res : Res T) (y : Bool) (h : laws_FnExactPortOk_dec res = some y) : res = laws_FnExactPortOk_enc y := by
  obtain ⟨rets, outs⟩ := res
  unfold laws_FnExactPortOk_dec at h
  dsimp only at h
  split at h
  · obtain ⟨r0, h0, h⟩ := Option.bind_eq_some_iff.1 h
    cases h
    rw [retV_eq ok h0]
    rfl
  · cases h
def laws_szCallS_D (n : Nat) (r0 : List (A T)) : Option Int := ocons r0 fun a0 r1 => ocons r1 fun a1 r2 => onil r2 (obind (argV (T := T) 129 a0) fun a0 => obind (argV (T := T) 3 a1) fun left1 => laws_szCallS n a0 left1)
def laws_szCallS_ent (n : Nat) : Ent T := ⟨71, 0, [], Int, laws_szCallS_D n, laws_szCallS_enc⟩
def laws_szIntS_D (n : Nat) (r0 : List (A T)) : Option Int := ocons r0 fun a0 r1 => ocons r1 fun a1 r2 => onil r2 (obind (argV (T := T) 23 a0) fun a0 => obind (argV (T := T) 3 a1) fun left1 => laws_szIntS n a0 left1)
def laws_szIntS_ent (n : Nat) : Ent T := ⟨83, 1, [], Int, laws_szIntS_D n, laws_szIntS_enc⟩
def laws_szIntSS_D (n : Nat) (r0 : List (A T)) : Option Int := ocons r0 fun a0 r1 => ocons r1 fun a1 r2 => onil r2 (obind (argV (T := T) 35 a0) fun a0 => obind (argV (T := T) 3 a1) fun left1 => laws_szIntSS n a0 left1)
def laws_szIntSS_ent (n : Nat) : Ent T := ⟨92, 2, [], Int, laws_szIntSS_D n, laws_szIntSS_enc⟩
def laws_szYard_D (n : Nat) (r0 : List (A T)) : Option Int := ocons r0 fun a0 r1 => ocons r1 fun a1 r2 => onil r2 (obind (argV (T := T) 37 a0) fun a0 => obind (argV (T := T) 3 a1) fun left1 => laws_szYard n a0 left1)
def laws_szYard_ent (n : Nat) : Ent T := ⟨19, 3, [], Int, laws_szYard_D n, laws_szYard_enc⟩
def laws_szStringS_D (n : Nat) (r0 : List (A T)) : Option Int := ocons r0 fun a0 r1 => ocons r1 fun a1 r2 => onil r2 (obind (argV (T := T) 77 a0) fun a0 => obind (argV (T := T) 3 a1) fun left1 => laws_szStringS n a0 left1)
def laws_szStringS_ent (n : Nat) : Ent T := ⟨214, 4, [], Int, laws_szStringS_D n, laws_szStringS_enc⟩
def laws_szBill_D (n : Nat) (r0 : List (A T)) : Option Int := ocons r0 fun a0 r1 => ocons r1 fun a1 r2 => onil r2 (obind (argV (T := T) 215 a0) fun a0 => obind (argV (T := T) 3 a1) fun left1 => laws_szBill n a0 left1)
def laws_szBill_ent (n : Nat) : Ent T := ⟨173, 5, [], Int, laws_szBill_D n, laws_szBill_enc⟩
def laws_szBillS_D (n : Nat) (r0 : List (A T)) : Option Int := ocons r0 fun a0 r1 => ocons r1 fun a1 r2 => onil r2 (obind (argV (T := T) 22 a0) fun a0 => obind (argV (T := T) 3 a1) fun left1 => laws_szBillS n a0 left1)
def laws_szBillS_ent (n : Nat) : Ent T := ⟨82, 6, [], Int, laws_szBillS_D n, laws_szBillS_enc⟩
def laws_szBook_D (n : Nat) (r0 : List (A T)) : Option Int := ocons r0 fun a0 r1 => ocons r1 fun a1 r2 => onil r2 (obind (argV (T := T) 25 a0) fun a0 => obind (argV (T := T) 3 a1) fun left1 => laws_szBook n a0 left1)
def laws_szBook_ent (n : Nat) : Ent T := ⟨14, 7, [], Int, laws_szBook_D n, laws_szBook_enc⟩
def laws_szLotS_D (n : Nat) (r0 : List (A T)) : Option Int := ocons r0 fun a0 r1 => ocons r1 fun a1 r2 => onil r2 (obind (argV (T := T) 82 a0) fun a0 => obind (argV (T := T) 3 a1) fun left1 => laws_szLotS n a0 left1)
def laws_szLotS_ent (n : Nat) : Ent T := ⟨131, 8, [], Int, laws_szLotS_D n, laws_szLotS_enc⟩
def laws_szTraderS_D (n : Nat) (r0 : List (A T)) : Option Int := ocons r0 fun a0 r1 => ocons r1 fun a1 r2 => onil r2 (obind (argV (T := T) 83 a0) fun a0 => obind (argV (T := T) 3 a1) fun left1 => laws_szTraderS n a0 left1)
def laws_szTraderS_ent (n : Nat) : Ent T := ⟨132, 9, [], Int, laws_szTraderS_D n, laws_szTraderS_enc⟩
def laws_szHouse_D (n : Nat) (r0 : List (A T)) : Option Int := ocons r0 fun a0 r1 => ocons r1 fun a1 r2 => onil r2 (obind (argV (T := T) 85 a0) fun a0 => obind (argV (T := T) 3 a1) fun left1 => laws_szHouse n a0 left1)
def laws_szHouse_ent (n : Nat) : Ent T := ⟨48, 10, [], Int, laws_szHouse_D n, laws_szHouse_enc⟩
def laws_szPort_D (n : Nat) (r0 : List (A T)) : Option Int := ocons r0 fun a0 r1 => ocons r1 fun a1 r2 => onil r2 (obind (argV (T := T) 136 a0) fun a0 => obind (argV (T := T) 3 a1) fun left1 => laws_szPort n a0 left1)
def laws_szPort_ent (n : Nat) : Ent T := ⟨77, 11, [], Int, laws_szPort_D n, laws_szPort_enc⟩
def laws_toCall_D (n : Nat) (r0 : List (A T)) : Option SCall := ocons r0 fun a0 r1 => onil r1 (obind (argV (T := T) 213 a0) fun a0 => laws_toCall n a0)
def laws_toCall_ent (n : Nat) : Ent T := ⟨170, 12, [], SCall, laws_toCall_D n, laws_toCall_enc⟩
def laws_toCallS_D (n : Nat) (r0 : List (A T)) : Option (List SCall) := ocons r0 fun a0 r1 => onil r1 (obind (argV (T := T) 129 a0) fun a0 => laws_toCallS n a0)
def laws_toCallS_ent (n : Nat) : Ent T := ⟨73, 13, [], List SCall, laws_toCallS_D n, laws_toCallS_enc⟩
def laws_toIntS_D (n : Nat) (r0 : List (A T)) : Option (List Int) := ocons r0 fun a0 r1 => onil r1 (obind (argV (T := T) 23 a0) fun a0 => laws_toIntS n a0)
def laws_toIntS_ent (n : Nat) : Ent T := ⟨88, 14, [], List Int, laws_toIntS_D n, laws_toIntS_enc⟩
def laws_toIntSS_D (n : Nat) (r0 : List (A T)) : Option (List (List Int)) := ocons r0 fun a0 r1 => onil r1 (obind (argV (T := T) 35 a0) fun a0 => laws_toIntSS n a0)
def laws_toIntSS_ent (n : Nat) : Ent T := ⟨98, 15, [], List (List Int), laws_toIntSS_D n, laws_toIntSS_enc⟩
def laws_toYard_D (n : Nat) (r0 : List (A T)) : Option SYard := ocons r0 fun a0 r1 => onil r1 (obind (argV (T := T) 37 a0) fun a0 => laws_toYard n a0)
def laws_toYard_ent (n : Nat) : Ent T := ⟨21, 16, [], SYard, laws_toYard_D n, laws_toYard_enc⟩
def laws_toStringS_D (n : Nat) (r0 : List (A T)) : Option (List ByteArray) := ocons r0 fun a0 r1 => onil r1 (obind (argV (T := T) 77 a0) fun a0 => laws_toStringS n a0)
def laws_toStringS_ent (n : Nat) : Ent T := ⟨215, 17, [], List ByteArray, laws_toStringS_D n, laws_toStringS_enc⟩
def laws_toBill_D (n : Nat) (r0 : List (A T)) : Option SBill := ocons r0 fun a0 r1 => onil r1 (obind (argV (T := T) 215 a0) fun a0 => laws_toBill n a0)
def laws_toBill_ent (n : Nat) : Ent T := ⟨176, 18, [], SBill, laws_toBill_D n, laws_toBill_enc⟩
def laws_toBillS_D (n : Nat) (r0 : List (A T)) : Option (List SBill) := ocons r0 fun a0 r1 => onil r1 (obind (argV (T := T) 22 a0) fun a0 => laws_toBillS n a0)
def laws_toBillS_ent (n : Nat) : Ent T := ⟨87, 19, [], List SBill, laws_toBillS_D n, laws_toBillS_enc⟩
def laws_toBook_D (n : Nat) (r0 : List (A T)) : Option SBook := ocons r0 fun a0 r1 => onil r1 (obind (argV (T := T) 25 a0) fun a0 => laws_toBook n a0)
def laws_toBook_ent (n : Nat) : Ent T := ⟨16, 20, [], SBook, laws_toBook_D n, laws_toBook_enc⟩
def laws_toLot_D (n : Nat) (r0 : List (A T)) : Option SLot := ocons r0 fun a0 r1 => onil r1 (obind (argV (T := T) 239 a0) fun a0 => laws_toLot n a0)
def laws_toLot_ent (n : Nat) : Ent T := ⟨199, 21, [], SLot, laws_toLot_D n, laws_toLot_enc⟩
def laws_toLotS_D (n : Nat) (r0 : List (A T)) : Option (List SLot) := ocons r0 fun a0 r1 => onil r1 (obind (argV (T := T) 82 a0) fun a0 => laws_toLotS n a0)
def laws_toLotS_ent (n : Nat) : Ent T := ⟨139, 22, [], List SLot, laws_toLotS_D n, laws_toLotS_enc⟩
def laws_toTrader_D (n : Nat) (r0 : List (A T)) : Option STrader := ocons r0 fun a0 r1 => onil r1 (obind (argV (T := T) 241 a0) fun a0 => laws_toTrader n a0)
def laws_toTrader_ent (n : Nat) : Ent T := ⟨200, 23, [], STrader, laws_toTrader_D n, laws_toTrader_enc⟩
def laws_toTraderS_D (n : Nat) (r0 : List (A T)) : Option (List STrader) := ocons r0 fun a0 r1 => onil r1 (obind (argV (T := T) 83 a0) fun a0 => laws_toTraderS n a0)
def laws_toTraderS_ent (n : Nat) : Ent T := ⟨140, 24, [], List STrader, laws_toTraderS_D n, laws_toTraderS_enc⟩
def laws_toHouse_D (n : Nat) (r0 : List (A T)) : Option SHouse := ocons r0 fun a0 r1 => onil r1 (obind (argV (T := T) 85 a0) fun a0 => laws_toHouse n a0)
def laws_toHouse_ent (n : Nat) : Ent T := ⟨50, 25, [], SHouse, laws_toHouse_D n, laws_toHouse_enc⟩
def laws_toPort_D (n : Nat) (r0 : List (A T)) : Option SPort := ocons r0 fun a0 r1 => onil r1 (obind (argV (T := T) 136 a0) fun a0 => laws_toPort n a0)
def laws_toPort_ent (n : Nat) : Ent T := ⟨79, 26, [], SPort, laws_toPort_D n, laws_toPort_enc⟩
def spec_l17Meet_D (n : Nat) (r0 : List (A T)) : Option Bool := ocons r0 fun a0 r1 => ocons r1 fun a1 r2 => onil r2 (obind (argV (T := T) 126 a0) fun a0 => obind (argV (T := T) 126 a1) fun b1 => spec_l17Meet n a0 b1)
def spec_l17Meet_ent (n : Nat) : Ent T := ⟨212, 27, [], Bool, spec_l17Meet_D n, spec_l17Meet_enc⟩
def spec_l1In_D (n : Nat) (r0 : List (A T)) : Option Bool := ocons r0 fun a0 r1 => ocons r1 fun a1 r2 => ocons r2 fun a2 r3 => onil r3 (obind (argV (T := T) 3 a0) fun x0 => obind (argV (T := T) 3 a1) fun a1 => obind (argV (T := T) 3 a2) fun b2 => spec_l1In n x0 a1 b2)
def spec_l1In_ent (n : Nat) : Ent T := ⟨174, 28, [], Bool, spec_l1In_D n, spec_l1In_enc⟩
def spec_l1Minute_D (n : Nat) (r0 : List (A T)) : Option Bool := ocons r0 fun a0 r1 => onil r1 (obind (argV (T := T) 3 a0) fun x0 => spec_l1Minute n x0)
def spec_l1Minute_ent (n : Nat) : Ent T := ⟨239, 29, [], Bool, spec_l1Minute_D n, spec_l1Minute_enc⟩
def spec_CallsOk_D (n : Nat) (r0 : List (A T)) : Option Bool := ocons r0 fun a0 r1 => ocons r1 fun a1 r2 => onil r2 (obind (argV (T := T) 3 a0) fun long0 => obind (argV (T := T) 119 a1) fun calls1 => spec_CallsOk n long0 calls1)
def spec_CallsOk_ent (n : Nat) : Ent T := ⟨213, 30, [], Bool, spec_CallsOk_D n, spec_CallsOk_enc⟩
def spec_Clear17_D (n : Nat) (r0 : List (A T)) : Option Bool := ocons r0 fun a0 r1 => ocons r1 fun a1 r2 => onil r2 (obind (argV (T := T) 3 a0) fun long0 => obind (argV (T := T) 119 a1) fun calls1 => spec_Clear17 n long0 calls1)
def spec_Clear17_ent (n : Nat) : Ent T := ⟨168, 31, [], Bool, spec_Clear17_D n, spec_Clear17_enc⟩
def spec_l18Count_D (n : Nat) (r0 : List (A T)) : Option Int := ocons r0 fun a0 r1 => ocons r1 fun a1 r2 => onil r2 (obind (argV (T := T) 41 a0) fun y0 => obind (argV (T := T) 3 a1) fun box1 => spec_l18Count n y0 box1)
def spec_l18Count_ent (n : Nat) : Ent T := ⟨181, 32, [], Int, spec_l18Count_D n, spec_l18Count_enc⟩
def spec_YardOk_D (n : Nat) (r0 : List (A T)) : Option Bool := ocons r0 fun a0 r1 => onil r1 (obind (argV (T := T) 41 a0) fun y0 => spec_YardOk n y0)
def spec_YardOk_ent (n : Nat) : Ent T := ⟨94, 33, [], Bool, spec_YardOk_D n, spec_YardOk_enc⟩
def spec_l1Name_D (n : Nat) (r0 : List (A T)) : Option Bool := ocons r0 fun a0 r1 => onil r1 (obind (argV (T := T) 9 a0) fun s0 => spec_l1Name n s0)
def spec_l1Name_ent (n : Nat) : Ent T := ⟨175, 34, [], Bool, spec_l1Name_D n, spec_l1Name_enc⟩
def spec_l14Find_D (n : Nat) (r0 : List (A T)) : Option Int := ocons r0 fun a0 r1 => ocons r1 fun a1 r2 => onil r2 (obind (argV (T := T) 31 a0) fun b0 => obind (argV (T := T) 3 a1) fun id1 => spec_l14Find n b0 id1)
def spec_l14Find_ent (n : Nat) : Ent T := ⟨84, 35, [], Int, spec_l14Find_D n, spec_l14Find_enc⟩
def spec_BookOk_D (n : Nat) (r0 : List (A T)) : Option Bool := ocons r0 fun a0 r1 => onil r1 (obind (argV (T := T) 31 a0) fun b0 => spec_BookOk n b0)
def spec_BookOk_ent (n : Nat) : Ent T := ⟨85, 36, [], Bool, spec_BookOk_D n, spec_BookOk_enc⟩
def spec_Duty6_D (n : Nat) (r0 : List (A T)) : Option (Int × Bool) := ocons r0 fun a0 r1 => ocons r1 fun a1 r2 => ocons r2 fun a2 r3 => onil r3 (obind (argV (T := T) 3 a0) fun many0 => obind (argV (T := T) 3 a1) fun value1 => obind (argV (T := T) 3 a2) fun rate2 => spec_Duty6 n many0 value1 rate2)
def spec_Duty6_ent (n : Nat) : Ent T := ⟨138, 37, [], Int × Bool, spec_Duty6_D n, spec_Duty6_enc⟩
def spec_HouseOk_D (n : Nat) (r0 : List (A T)) : Option Bool := ocons r0 fun a0 r1 => onil r1 (obind (argV (T := T) 92 a0) fun h0 => spec_HouseOk n h0)
def spec_HouseOk_ent (n : Nat) : Ent T := ⟨172, 38, [], Bool, spec_HouseOk_D n, spec_HouseOk_enc⟩
def spec_PortOk_D (n : Nat) (r0 : List (A T)) : Option Bool := ocons r0 fun a0 r1 => onil r1 (obind (argV (T := T) 140 a0) fun p0 => spec_PortOk n p0)
def spec_PortOk_ent (n : Nat) : Ent T := ⟨78, 39, [], Bool, spec_PortOk_D n, spec_PortOk_enc⟩
def impl_in_D (n : Nat) (r0 : List (A T)) : Option Bool := ocons r0 fun a0 r1 => ocons r1 fun a1 r2 => ocons r2 fun a2 r3 => onil r3 (obind (argV (T := T) 3 a0) fun n0 => obind (argV (T := T) 3 a1) fun least1 => obind (argV (T := T) 3 a2) fun most2 => impl_in n n0 least1 most2)
def impl_in_ent (n : Nat) : Ent T := ⟨101, 40, [], Bool, impl_in_D n, impl_in_enc⟩
def impl_idRight_D (n : Nat) (r0 : List (A T)) : Option Bool := ocons r0 fun a0 r1 => onil r1 (obind (argV (T := T) 3 a0) fun n0 => impl_idRight n n0)
def impl_idRight_ent (n : Nat) : Ent T := ⟨102, 41, [], Bool, impl_idRight_D n, impl_idRight_enc⟩
def impl_minuteOk_D (n : Nat) (r0 : List (A T)) : Option Bool := ocons r0 fun a0 r1 => onil r1 (obind (argV (T := T) 3 a0) fun n0 => impl_minuteOk n n0)
def impl_minuteOk_ent (n : Nat) : Ent T := ⟨211, 42, [], Bool, impl_minuteOk_D n, impl_minuteOk_enc⟩
def impl_callOk_D (n : Nat) (r0 : List (A T)) : Option Bool := ocons r0 fun a0 r1 => ocons r1 fun a1 r2 => onil r2 (obind (argV (T := T) 3 a0) fun long0 => obind (argV (T := T) 126 a1) fun c1 => impl_callOk n long0 c1)
def impl_callOk_ent (n : Nat) : Ent T := ⟨161, 43, [], Bool, impl_callOk_D n, impl_callOk_enc⟩
def impl_CallsOk_D (n : Nat) (r0 : List (A T)) : Option Bool := ocons r0 fun a0 r1 => ocons r1 fun a1 r2 => onil r2 (obind (argV (T := T) 3 a0) fun long0 => obind (argV (T := T) 119 a1) fun calls1 => impl_CallsOk n long0 calls1)
def impl_CallsOk_ent (n : Nat) : Ent T := ⟨67, 44, [], Bool, impl_CallsOk_D n, impl_CallsOk_enc⟩
def impl_shares_D (n : Nat) (r0 : List (A T)) : Option Bool := ocons r0 fun a0 r1 => ocons r1 fun a1 r2 => onil r2 (obind (argV (T := T) 126 a0) fun a0 => obind (argV (T := T) 126 a1) fun b1 => impl_shares n a0 b1)
def impl_shares_ent (n : Nat) : Ent T := ⟨164, 45, [], Bool, impl_shares_D n, impl_shares_enc⟩
def impl_Clear17_1_D (n : Nat) (r0 : List (A T)) : Option Bool := ocons r0 fun a0 r1 => ocons r1 fun a1 r2 => onil r2 (obind (argV (T := T) 126 a0) fun x0 => obind (argP (T := T) 126 a1) fun a1 => impl_Clear17_1 n x0 a1)
def impl_Clear17_1_ent (n : Nat) : Ent T := ⟨163, 46, [], Bool, impl_Clear17_1_D n, impl_Clear17_1_enc⟩
def slices_IndexFunc_impl_Call_impl_Call__impl_Clear17_1_D (n : Nat) (ar : List (A T)) : Option Int := match ar with
  | [a0, .fn _ [k1_0]] => obind (argV (T := T) 119 a0) fun s0 => obind (argP (T := T) 126 k1_0) fun f1c0 => slices_IndexFunc_impl_Call_impl_Call__impl_Clear17_1 n s0 f1c0
  | _ => none
def slices_IndexFunc_impl_Call_impl_Call__impl_Clear17_1_ent (n : Nat) : Ent T := ⟨165, 47, [163], Int, slices_IndexFunc_impl_Call_impl_Call__impl_Clear17_1_D n, slices_IndexFunc_impl_Call_impl_Call__impl_Clear17_1_enc⟩
def slices_ContainsFunc_impl_Call_impl_Call__impl_Clear17_1_D (n : Nat) (ar : List (A T)) : Option Bool := match ar with
  | [a0, .fn _ [k1_0]] => obind (argV (T := T) 119 a0) fun s0 => obind (argP (T := T) 126 k1_0) fun f1c0 => slices_ContainsFunc_impl_Call_impl_Call__impl_Clear17_1 n s0 f1c0
  | _ => none
def slices_ContainsFunc_impl_Call_impl_Call__impl_Clear17_1_ent (n : Nat) : Ent T := ⟨162, 48, [163], Bool, slices_ContainsFunc_impl_Call_impl_Call__impl_Clear17_1_D n, slices_ContainsFunc_impl_Call_impl_Call__impl_Clear17_1_enc⟩
def impl_Clear17_D (n : Nat) (r0 : List (A T)) : Option Bool := ocons r0 fun a0 r1 => ocons r1 fun a1 r2 => onil r2 (obind (argV (T := T) 3 a0) fun long0 => obind (argV (T := T) 119 a1) fun calls1 => impl_Clear17 n long0 calls1)
def impl_Clear17_ent (n : Nat) : Ent T := ⟨68, 49, [], Bool, impl_Clear17_D n, impl_Clear17_enc⟩
def impl_YardOk_D (n : Nat) (r0 : List (A T)) : Option Bool := ocons r0 fun a0 r1 => onil r1 (obind (argV (T := T) 41 a0) fun y0 => impl_YardOk n y0)
def impl_YardOk_ent (n : Nat) : Ent T := ⟨100, 50, [], Bool, impl_YardOk_D n, impl_YardOk_enc⟩
def impl_nameOk_D (n : Nat) (r0 : List (A T)) : Option Bool := ocons r0 fun a0 r1 => onil r1 (obind (argV (T := T) 9 a0) fun s0 => impl_nameOk n s0)
def impl_nameOk_ent (n : Nat) : Ent T := ⟨115, 51, [], Bool, impl_nameOk_D n, impl_nameOk_enc⟩
def impl_emptyOrName_D (n : Nat) (r0 : List (A T)) : Option Bool := ocons r0 fun a0 r1 => onil r1 (obind (argV (T := T) 9 a0) fun s0 => impl_emptyOrName n s0)
def impl_emptyOrName_ent (n : Nat) : Ent T := ⟨116, 52, [], Bool, impl_emptyOrName_D n, impl_emptyOrName_enc⟩
def impl_BookOk_1_D (n : Nat) (r0 : List (A T)) : Option Bool := ocons r0 fun a0 r1 => onil r1 (obind (argV (T := T) 9 a0) fun s0 => impl_BookOk_1 n s0)
def impl_BookOk_1_ent (n : Nat) : Ent T := ⟨130, 53, [], Bool, impl_BookOk_1_D n, impl_BookOk_1_enc⟩
def slices_IndexFunc_string_string__impl_BookOk_1_D (n : Nat) (ar : List (A T)) : Option Int := match ar with
  | [a0, .fn _ []] => obind (argV (T := T) 77 a0) fun s0 => slices_IndexFunc_string_string__impl_BookOk_1 n s0
  | _ => none
def slices_IndexFunc_string_string__impl_BookOk_1_ent (n : Nat) : Ent T := ⟨189, 54, [130], Int, slices_IndexFunc_string_string__impl_BookOk_1_D n, slices_IndexFunc_string_string__impl_BookOk_1_enc⟩
def slices_ContainsFunc_string_string__impl_BookOk_1_D (n : Nat) (ar : List (A T)) : Option Bool := match ar with
  | [a0, .fn _ []] => obind (argV (T := T) 77 a0) fun s0 => slices_ContainsFunc_string_string__impl_BookOk_1 n s0
  | _ => none
def slices_ContainsFunc_string_string__impl_BookOk_1_ent (n : Nat) : Ent T := ⟨121, 55, [130], Bool, slices_ContainsFunc_string_string__impl_BookOk_1_D n, slices_ContainsFunc_string_string__impl_BookOk_1_enc⟩
def impl_BookOk_D (n : Nat) (r0 : List (A T)) : Option Bool := ocons r0 fun a0 r1 => onil r1 (obind (argV (T := T) 31 a0) fun b0 => impl_BookOk n b0)
def impl_BookOk_ent (n : Nat) : Ent T := ⟨44, 56, [], Bool, impl_BookOk_D n, impl_BookOk_enc⟩
def impl_lotRight_D (n : Nat) (r0 : List (A T)) : Option Bool := ocons r0 fun a0 r1 => ocons r1 fun a1 r2 => ocons r2 fun a2 r3 => onil r3 (obind (argV (T := T) 3 a0) fun many0 => obind (argV (T := T) 3 a1) fun value1 => obind (argV (T := T) 3 a2) fun rate2 => impl_lotRight n many0 value1 rate2)
def impl_lotRight_ent (n : Nat) : Ent T := ⟨142, 57, [], Bool, impl_lotRight_D n, impl_lotRight_enc⟩
def impl_Duty6_D (n : Nat) (r0 : List (A T)) : Option (Int × Bool) := ocons r0 fun a0 r1 => ocons r1 fun a1 r2 => ocons r2 fun a2 r3 => onil r3 (obind (argV (T := T) 3 a0) fun many0 => obind (argV (T := T) 3 a1) fun value1 => obind (argV (T := T) 3 a2) fun rate2 => impl_Duty6 n many0 value1 rate2)
def impl_Duty6_ent (n : Nat) : Ent T := ⟨64, 58, [], Int × Bool, impl_Duty6_D n, impl_Duty6_enc⟩
def impl_Lot_duty_D (n : Nat) (r0 : List (A T)) : Option Int := ocons r0 fun a0 r1 => onil r1 (obind (argV (T := T) 116 a0) fun l0 => impl_Lot_duty n l0)
def impl_Lot_duty_ent (n : Nat) : Ent T := ⟨146, 59, [], Int, impl_Lot_duty_D n, impl_Lot_duty_enc⟩
def impl_HouseOk_D (n : Nat) (r0 : List (A T)) : Option Bool := ocons r0 fun a0 r1 => onil r1 (obind (argV (T := T) 92 a0) fun h0 => impl_HouseOk n h0)
def impl_HouseOk_ent (n : Nat) : Ent T := ⟨63, 60, [], Bool, impl_HouseOk_D n, impl_HouseOk_enc⟩
def impl_PortOk_D (n : Nat) (r0 : List (A T)) : Option Bool := ocons r0 fun a0 r1 => onil r1 (obind (argV (T := T) 140 a0) fun p0 => impl_PortOk n p0)
def impl_PortOk_ent (n : Nat) : Ent T := ⟨80, 61, [], Bool, impl_PortOk_D n, impl_PortOk_enc⟩
def laws_eqCall_D (n : Nat) (r0 : List (A T)) : Option Bool := ocons r0 fun a0 r1 => ocons r1 fun a1 r2 => onil r2 (obind (argV (T := T) 126 a0) fun a0 => obind (argV (T := T) 126 a1) fun b1 => laws_eqCall n a0 b1)
def laws_eqCall_ent (n : Nat) : Ent T := ⟨171, 62, [], Bool, laws_eqCall_D n, laws_eqCall_enc⟩
def laws_eqCallS_D (n : Nat) (r0 : List (A T)) : Option Bool := ocons r0 fun a0 r1 => ocons r1 fun a1 r2 => onil r2 (obind (argV (T := T) 119 a0) fun a0 => obind (argV (T := T) 119 a1) fun b1 => laws_eqCallS n a0 b1)
def laws_eqCallS_ent (n : Nat) : Ent T := ⟨74, 63, [], Bool, laws_eqCallS_D n, laws_eqCallS_enc⟩
def laws_eqIntS_D (n : Nat) (r0 : List (A T)) : Option Bool := ocons r0 fun a0 r1 => ocons r1 fun a1 r2 => onil r2 (obind (argV (T := T) 23 a0) fun a0 => obind (argV (T := T) 23 a1) fun b1 => laws_eqIntS n a0 b1)
def laws_eqIntS_ent (n : Nat) : Ent T := ⟨31, 64, [], Bool, laws_eqIntS_D n, laws_eqIntS_enc⟩
def laws_eqIntSS_D (n : Nat) (r0 : List (A T)) : Option Bool := ocons r0 fun a0 r1 => ocons r1 fun a1 r2 => onil r2 (obind (argV (T := T) 35 a0) fun a0 => obind (argV (T := T) 35 a1) fun b1 => laws_eqIntSS n a0 b1)
def laws_eqIntSS_ent (n : Nat) : Ent T := ⟨106, 65, [], Bool, laws_eqIntSS_D n, laws_eqIntSS_enc⟩
def laws_eqYard_D (n : Nat) (r0 : List (A T)) : Option Bool := ocons r0 fun a0 r1 => ocons r1 fun a1 r2 => onil r2 (obind (argV (T := T) 41 a0) fun a0 => obind (argV (T := T) 41 a1) fun b1 => laws_eqYard n a0 b1)
def laws_eqYard_ent (n : Nat) : Ent T := ⟨24, 66, [], Bool, laws_eqYard_D n, laws_eqYard_enc⟩
def laws_eqStringS_D (n : Nat) (r0 : List (A T)) : Option Bool := ocons r0 fun a0 r1 => ocons r1 fun a1 r2 => onil r2 (obind (argV (T := T) 77 a0) fun a0 => obind (argV (T := T) 77 a1) fun b1 => laws_eqStringS n a0 b1)
def laws_eqStringS_ent (n : Nat) : Ent T := ⟨216, 67, [], Bool, laws_eqStringS_D n, laws_eqStringS_enc⟩
def laws_eqBill_D (n : Nat) (r0 : List (A T)) : Option Bool := ocons r0 fun a0 r1 => ocons r1 fun a1 r2 => onil r2 (obind (argV (T := T) 79 a0) fun a0 => obind (argV (T := T) 79 a1) fun b1 => laws_eqBill n a0 b1)
def laws_eqBill_ent (n : Nat) : Ent T := ⟨180, 68, [], Bool, laws_eqBill_D n, laws_eqBill_enc⟩
def laws_eqBillS_D (n : Nat) (r0 : List (A T)) : Option Bool := ocons r0 fun a0 r1 => ocons r1 fun a1 r2 => onil r2 (obind (argV (T := T) 29 a0) fun a0 => obind (argV (T := T) 29 a1) fun b1 => laws_eqBillS n a0 b1)
def laws_eqBillS_ent (n : Nat) : Ent T := ⟨91, 69, [], Bool, laws_eqBillS_D n, laws_eqBillS_enc⟩
def laws_eqBook_D (n : Nat) (r0 : List (A T)) : Option Bool := ocons r0 fun a0 r1 => ocons r1 fun a1 r2 => onil r2 (obind (argV (T := T) 31 a0) fun a0 => obind (argV (T := T) 31 a1) fun b1 => laws_eqBook n a0 b1)
def laws_eqBook_ent (n : Nat) : Ent T := ⟨18, 70, [], Bool, laws_eqBook_D n, laws_eqBook_enc⟩
def laws_eqLot_D (n : Nat) (r0 : List (A T)) : Option Bool := ocons r0 fun a0 r1 => ocons r1 fun a1 r2 => onil r2 (obind (argV (T := T) 116 a0) fun a0 => obind (argV (T := T) 116 a1) fun b1 => laws_eqLot n a0 b1)
def laws_eqLot_ent (n : Nat) : Ent T := ⟨207, 71, [], Bool, laws_eqLot_D n, laws_eqLot_enc⟩
def laws_eqLotS_D (n : Nat) (r0 : List (A T)) : Option Bool := ocons r0 fun a0 r1 => ocons r1 fun a1 r2 => onil r2 (obind (argV (T := T) 89 a0) fun a0 => obind (argV (T := T) 89 a1) fun b1 => laws_eqLotS n a0 b1)
def laws_eqLotS_ent (n : Nat) : Ent T := ⟨147, 72, [], Bool, laws_eqLotS_D n, laws_eqLotS_enc⟩
def laws_eqTrader_D (n : Nat) (r0 : List (A T)) : Option Bool := ocons r0 fun a0 r1 => ocons r1 fun a1 r2 => onil r2 (obind (argV (T := T) 114 a0) fun a0 => obind (argV (T := T) 114 a1) fun b1 => laws_eqTrader n a0 b1)
def laws_eqTrader_ent (n : Nat) : Ent T := ⟨208, 73, [], Bool, laws_eqTrader_D n, laws_eqTrader_enc⟩
def laws_eqTraderS_D (n : Nat) (r0 : List (A T)) : Option Bool := ocons r0 fun a0 r1 => ocons r1 fun a1 r2 => onil r2 (obind (argV (T := T) 90 a0) fun a0 => obind (argV (T := T) 90 a1) fun b1 => laws_eqTraderS n a0 b1)
def laws_eqTraderS_ent (n : Nat) : Ent T := ⟨148, 74, [], Bool, laws_eqTraderS_D n, laws_eqTraderS_enc⟩
def laws_eqHouse_D (n : Nat) (r0 : List (A T)) : Option Bool := ocons r0 fun a0 r1 => ocons r1 fun a1 r2 => onil r2 (obind (argV (T := T) 92 a0) fun a0 => obind (argV (T := T) 92 a1) fun b1 => laws_eqHouse n a0 b1)
def laws_eqHouse_ent (n : Nat) : Ent T := ⟨53, 75, [], Bool, laws_eqHouse_D n, laws_eqHouse_enc⟩
def laws_eqPort_D (n : Nat) (r0 : List (A T)) : Option Bool := ocons r0 fun a0 r1 => ocons r1 fun a1 r2 => onil r2 (obind (argV (T := T) 140 a0) fun a0 => obind (argV (T := T) 140 a1) fun b1 => laws_eqPort n a0 b1)
def laws_eqPort_ent (n : Nat) : Ent T := ⟨81, 76, [], Bool, laws_eqPort_D n, laws_eqPort_enc⟩
def laws_FnExactPortOk_D (n : Nat) (r0 : List (A T)) : Option Bool := ocons r0 fun a0 r1 => onil r1 (obind (argV (T := T) 136 a0) fun aP0 => laws_FnExactPortOk n aP0)
def laws_FnExactPortOk_ent (n : Nat) : Ent T := ⟨13, 77, [], Bool, laws_FnExactPortOk_D n, laws_FnExactPortOk_enc⟩
def ents (n : Nat) : List (Ent T) := [laws_szCallS_ent n, laws_szIntS_ent n, laws_szIntSS_ent n, laws_szYard_ent n, laws_szStringS_ent n, laws_szBill_ent n, laws_szBillS_ent n, laws_szBook_ent n, laws_szLotS_ent n, laws_szTraderS_ent n, laws_szHouse_ent n, laws_szPort_ent n, laws_toCall_ent n, laws_toCallS_ent n, laws_toIntS_ent n, laws_toIntSS_ent n, laws_toYard_ent n, laws_toStringS_ent n, laws_toBill_ent n, laws_toBillS_ent n, laws_toBook_ent n, laws_toLot_ent n, laws_toLotS_ent n, laws_toTrader_ent n, laws_toTraderS_ent n, laws_toHouse_ent n, laws_toPort_ent n, spec_l17Meet_ent n, spec_l1In_ent n, spec_l1Minute_ent n, spec_CallsOk_ent n, spec_Clear17_ent n, spec_l18Count_ent n, spec_YardOk_ent n, spec_l1Name_ent n, spec_l14Find_ent n, spec_BookOk_ent n, spec_Duty6_ent n, spec_HouseOk_ent n, spec_PortOk_ent n, impl_in_ent n, impl_idRight_ent n, impl_minuteOk_ent n, impl_callOk_ent n, impl_CallsOk_ent n, impl_shares_ent n, impl_Clear17_1_ent n, slices_IndexFunc_impl_Call_impl_Call__impl_Clear17_1_ent n, slices_ContainsFunc_impl_Call_impl_Call__impl_Clear17_1_ent n, impl_Clear17_ent n, impl_YardOk_ent n, impl_nameOk_ent n, impl_emptyOrName_ent n, impl_BookOk_1_ent n, slices_IndexFunc_string_string__impl_BookOk_1_ent n, slices_ContainsFunc_string_string__impl_BookOk_1_ent n, impl_BookOk_ent n, impl_lotRight_ent n, impl_Duty6_ent n, impl_Lot_duty_ent n, impl_HouseOk_ent n, impl_PortOk_ent n, laws_eqCall_ent n, laws_eqCallS_ent n, laws_eqIntS_ent n, laws_eqIntSS_ent n, laws_eqYard_ent n, laws_eqStringS_ent n, laws_eqBill_ent n, laws_eqBillS_ent n, laws_eqBook_ent n, laws_eqLot_ent n, laws_eqLotS_ent n, laws_eqTrader_ent n, laws_eqTraderS_ent n, laws_eqHouse_ent n, laws_eqPort_ent n, laws_FnExactPortOk_ent n]
abbrev Phi (n i : Nat) {R : Type} (f : Nat) (ar : List (A T)) (K : Res T → Option R) : Option R := PhiE (ents n) i f ar K
theorem mixed : Try.prog.follows .mixedOrders = true := by kernel_rfl
noncomputable def laws_szCallS_code : Code := match Try.f71.body with | some c => c | none => .skip
def laws_szCallS_ann : Ann := fun id => none
def laws_szCallS_Ls (n : Nat) : Nat → Option (LSpec T) := fun id => none
theorem laws_szCallS_tie (n : Nat) (a0 : List SCall) (left1 : Int) : evF (T := T) (Phi n 0) (laws_szCallS_Ls n) laws_szCallS_ann n Try.f71 (sg 71) [vA T 129 a0, vA T 3 left1] laws_szCallS_dec = laws_szCallS n a0 left1 := by kernel_rfl
theorem laws_szCallS_lo (n : Nat) : LoopsOk (T := T) (Phi n 0) (laws_szCallS_Ls n) laws_szCallS_ann n laws_szCallS_code := loopsOk_all (cs := []) (by kernel_rfl) trivial
theorem laws_szCallS_ok (n : Nat) : EntOk Try.prog (ents n) (laws_szCallS_ent n) := by
  intro hs ar y hg h
  replace h : laws_szCallS_D n ar = some y := h
  unfold laws_szCallS_D at h
  replace h := ocons_some h
  obtain ⟨a0, r0, rfl, h⟩ := h
  replace h := ocons_some h
  obtain ⟨a1, r1, rfl, h⟩ := h
  replace h := onil_some h
  obtain ⟨rfl, h⟩ := h
  obtain ⟨a0, qh0, h⟩ := obind_some h
  obtain ⟨left1, qh1, h⟩ := obind_some h
  rw [argV_eq ok qh0, argV_eq ok qh1]
  exact call_of (phiE_nat _ _) hs ok mixed Try.func71 (c := laws_szCallS_code) (by kernel_rfl) (laws_szCallS_lo n) (by kernel_rfl) (by kernel_rfl) (by kernel_rfl) laws_szCallS_de ((laws_szCallS_tie n a0 left1).trans h)
noncomputable def laws_szIntS_code : Code := match Try.f83.body with | some c => c | none => .skip
def laws_szIntS_ann : Ann := fun id => none
def laws_szIntS_Ls (n : Nat) : Nat → Option (LSpec T) := fun id => none
theorem laws_szIntS_tie (n : Nat) (a0 : List Int) (left1 : Int) : evF (T := T) (Phi n 1) (laws_szIntS_Ls n) laws_szIntS_ann n Try.f83 (sg 83) [vA T 23 a0, vA T 3 left1] laws_szIntS_dec = laws_szIntS n a0 left1 := by kernel_rfl
theorem laws_szIntS_lo (n : Nat) : LoopsOk (T := T) (Phi n 1) (laws_szIntS_Ls n) laws_szIntS_ann n laws_szIntS_code := loopsOk_all (cs := []) (by kernel_rfl) trivial
theorem laws_szIntS_ok (n : Nat) : EntOk Try.prog (ents n) (laws_szIntS_ent n) := by
  intro hs ar y hg h
  replace h : laws_szIntS_D n ar = some y := h
  unfold laws_szIntS_D at h
  replace h := ocons_some h
  obtain ⟨a0, r0, rfl, h⟩ := h
  replace h := ocons_some h
  obtain ⟨a1, r1, rfl, h⟩ := h
  replace h := onil_some h
  obtain ⟨rfl, h⟩ := h
  obtain ⟨a0, qh0, h⟩ := obind_some h
  obtain ⟨left1, qh1, h⟩ := obind_some h
  rw [argV_eq ok qh0, argV_eq ok qh1]
  exact call_of (phiE_nat _ _) hs ok mixed Try.func83 (c := laws_szIntS_code) (by kernel_rfl) (laws_szIntS_lo n) (by kernel_rfl) (by kernel_rfl) (by kernel_rfl) laws_szIntS_de ((laws_szIntS_tie n a0 left1).trans h)
noncomputable def laws_szIntSS_code : Code := match Try.f92.body with | some c => c | none => .skip
def laws_szIntSS_5_sv : List Sv := [.one (.arr 23), .one (.int .i64), .one (.int .i64)]
def laws_szIntSS_5_so : List So := []
def laws_szIntSS_5_emb (c : List (List Int)) (x : Int × Int) : EVs T laws_szIntSS_5_sv × EOs T laws_szIntSS_5_so := ((c, x.1, x.2, ()), ())
def laws_szIntSS_5_prj (y : EVs T laws_szIntSS_5_sv × EOs T laws_szIntSS_5_so) : List (List Int) × (Int × Int) := ((y.1.1), (y.1.2.1, y.1.2.2.1))
def laws_szIntSS_5_b (n : Nat) {R : Type} (K : Ex → Sm.St T → Option R) (c : List (List Int)) (x : Int × Int) (J : (Int × Int) → Option R) : Option R :=
  laws_szIntSS_L5 n (fun (y0 : Int) => K (.exit 0) (stOf (T := T) [1] [] [.one (.int .i64)] [] (y0, ()) ())) (fun (y0 : Int) => K .ret (stOf (T := T) [4] [] [.one (.int .i64)] [] (y0, ()) ())) (fun z0 z1 => J (z0, z1)) c x.1 x.2
def laws_szIntSS_5_sp (n : Nat) : LSpec T := mkSpec T ⟨[], [0, 1, 5], []⟩ laws_szIntSS_5_sv laws_szIntSS_5_so (List (List Int)) (Int × Int) laws_szIntSS_5_emb laws_szIntSS_5_prj (laws_szIntSS_5_b n)
noncomputable def laws_szIntSS_5_c : Code := ((loopCodes laws_szIntSS_code)[0]?).getD .skip
def laws_szIntSS_ann : Ann := fun id => bif Nat.beq id 3000005 then some ⟨[], [1], []⟩ else bif Nat.beq id 2000005 then some ⟨[], [4], []⟩ else none
def laws_szIntSS_Ls (n : Nat) : Nat → Option (LSpec T) := fun id => bif Nat.beq id 5 then some (laws_szIntSS_5_sp n) else none
theorem laws_szIntSS_5_le (n : Nat) : LoopEq (T := T) (Phi n 2) (laws_szIntSS_Ls n) laws_szIntSS_ann n laws_szIntSS_5_c (laws_szIntSS_5_sp n) := ⟨mkSpec_dec (fun y => rfl), fun c x => by kernel_rfl, fun K J c x => by kernel_rfl⟩
theorem laws_szIntSS_tie (n : Nat) (a0 : List (List Int)) (left1 : Int) : evF (T := T) (Phi n 2) (laws_szIntSS_Ls n) laws_szIntSS_ann n Try.f92 (sg 92) [vA T 35 a0, vA T 3 left1] laws_szIntSS_dec = laws_szIntSS n a0 left1 := by kernel_rfl
theorem laws_szIntSS_lo (n : Nat) : LoopsOk (T := T) (Phi n 2) (laws_szIntSS_Ls n) laws_szIntSS_ann n laws_szIntSS_code := loopsOk_all (cs := [laws_szIntSS_5_c]) (by kernel_rfl) ⟨⟨_, by kernel_rfl, laws_szIntSS_5_le n⟩, trivial⟩
theorem laws_szIntSS_ok (n : Nat) : EntOk Try.prog (ents n) (laws_szIntSS_ent n) := by
  intro hs ar y hg h
  replace h : laws_szIntSS_D n ar = some y := h
  unfold laws_szIntSS_D at h
  replace h := ocons_some h
  obtain ⟨a0, r0, rfl, h⟩ := h
  replace h := ocons_some h
  obtain ⟨a1, r1, rfl, h⟩ := h
  replace h := onil_some h
  obtain ⟨rfl, h⟩ := h
  obtain ⟨a0, qh0, h⟩ := obind_some h
  obtain ⟨left1, qh1, h⟩ := obind_some h
  rw [argV_eq ok qh0, argV_eq ok qh1]
  exact call_of (phiE_nat _ _) hs ok mixed Try.func92 (c := laws_szIntSS_code) (by kernel_rfl) (laws_szIntSS_lo n) (by kernel_rfl) (by kernel_rfl) (by kernel_rfl) laws_szIntSS_de ((laws_szIntSS_tie n a0 left1).trans h)
noncomputable def laws_szYard_code : Code := match Try.f19.body with | some c => c | none => .skip
def laws_szYard_ann : Ann := fun id => none
def laws_szYard_Ls (n : Nat) : Nat → Option (LSpec T) := fun id => none
theorem laws_szYard_tie (n : Nat) (a0 : SYard) (left1 : Int) : evF (T := T) (Phi n 3) (laws_szYard_Ls n) laws_szYard_ann n Try.f19 (sg 19) [vA T 37 a0, vA T 3 left1] laws_szYard_dec = laws_szYard n a0 left1 := by kernel_rfl
theorem laws_szYard_lo (n : Nat) : LoopsOk (T := T) (Phi n 3) (laws_szYard_Ls n) laws_szYard_ann n laws_szYard_code := loopsOk_all (cs := []) (by kernel_rfl) trivial
theorem laws_szYard_ok (n : Nat) : EntOk Try.prog (ents n) (laws_szYard_ent n) := by
  intro hs ar y hg h
  replace h : laws_szYard_D n ar = some y := h
  unfold laws_szYard_D at h
  replace h := ocons_some h
  obtain ⟨a0, r0, rfl, h⟩ := h
  replace h := ocons_some h
  obtain ⟨a1, r1, rfl, h⟩ := h
  replace h := onil_some h
  obtain ⟨rfl, h⟩ := h
  obtain ⟨a0, qh0, h⟩ := obind_some h
  obtain ⟨left1, qh1, h⟩ := obind_some h
  rw [argV_eq ok qh0, argV_eq ok qh1]
  exact call_of (phiE_nat _ _) hs ok mixed Try.func19 (c := laws_szYard_code) (by kernel_rfl) (laws_szYard_lo n) (by kernel_rfl) (by kernel_rfl) (by kernel_rfl) laws_szYard_de ((laws_szYard_tie n a0 left1).trans h)
noncomputable def laws_szStringS_code : Code := match Try.f214.body with | some c => c | none => .skip
def laws_szStringS_5_sv : List Sv := [.one (.arr 9), .one (.int .i64), .one (.int .i64)]
def laws_szStringS_5_so : List So := []
def laws_szStringS_5_emb (c : List ByteArray) (x : Int × Int) : EVs T laws_szStringS_5_sv × EOs T laws_szStringS_5_so := ((c, x.1, x.2, ()), ())
def laws_szStringS_5_prj (y : EVs T laws_szStringS_5_sv × EOs T laws_szStringS_5_so) : List ByteArray × (Int × Int) := ((y.1.1), (y.1.2.1, y.1.2.2.1))
def laws_szStringS_5_b (n : Nat) {R : Type} (K : Ex → Sm.St T → Option R) (c : List ByteArray) (x : Int × Int) (J : (Int × Int) → Option R) : Option R :=
  laws_szStringS_L5 n (fun (y0 : Int) => K (.exit 0) (stOf (T := T) [1] [] [.one (.int .i64)] [] (y0, ()) ())) (fun (y0 : Int) => K .ret (stOf (T := T) [4] [] [.one (.int .i64)] [] (y0, ()) ())) (fun z0 z1 => J (z0, z1)) c x.1 x.2
def laws_szStringS_5_sp (n : Nat) : LSpec T := mkSpec T ⟨[], [0, 1, 5], []⟩ laws_szStringS_5_sv laws_szStringS_5_so (List ByteArray) (Int × Int) laws_szStringS_5_emb laws_szStringS_5_prj (laws_szStringS_5_b n)
noncomputable def laws_szStringS_5_c : Code := ((loopCodes laws_szStringS_code)[0]?).getD .skip
def laws_szStringS_ann : Ann := fun id => bif Nat.beq id 3000005 then some ⟨[], [1], []⟩ else bif Nat.beq id 2000005 then some ⟨[], [4], []⟩ else none
def laws_szStringS_Ls (n : Nat) : Nat → Option (LSpec T) := fun id => bif Nat.beq id 5 then some (laws_szStringS_5_sp n) else none
theorem laws_szStringS_5_le (n : Nat) : LoopEq (T := T) (Phi n 4) (laws_szStringS_Ls n) laws_szStringS_ann n laws_szStringS_5_c (laws_szStringS_5_sp n) := ⟨mkSpec_dec (fun y => rfl), fun c x => by kernel_rfl, fun K J c x => by kernel_rfl⟩
theorem laws_szStringS_tie (n : Nat) (a0 : List ByteArray) (left1 : Int) : evF (T := T) (Phi n 4) (laws_szStringS_Ls n) laws_szStringS_ann n Try.f214 (sg 214) [vA T 77 a0, vA T 3 left1] laws_szStringS_dec = laws_szStringS n a0 left1 := by kernel_rfl
theorem laws_szStringS_lo (n : Nat) : LoopsOk (T := T) (Phi n 4) (laws_szStringS_Ls n) laws_szStringS_ann n laws_szStringS_code := loopsOk_all (cs := [laws_szStringS_5_c]) (by kernel_rfl) ⟨⟨_, by kernel_rfl, laws_szStringS_5_le n⟩, trivial⟩
theorem laws_szStringS_ok (n : Nat) : EntOk Try.prog (ents n) (laws_szStringS_ent n) := by
  intro hs ar y hg h
  replace h : laws_szStringS_D n ar = some y := h
  unfold laws_szStringS_D at h
  replace h := ocons_some h
  obtain ⟨a0, r0, rfl, h⟩ := h
  replace h := ocons_some h
  obtain ⟨a1, r1, rfl, h⟩ := h
  replace h := onil_some h
  obtain ⟨rfl, h⟩ := h
  obtain ⟨a0, qh0, h⟩ := obind_some h
  obtain ⟨left1, qh1, h⟩ := obind_some h
  rw [argV_eq ok qh0, argV_eq ok qh1]
  exact call_of (phiE_nat _ _) hs ok mixed Try.func214 (c := laws_szStringS_code) (by kernel_rfl) (laws_szStringS_lo n) (by kernel_rfl) (by kernel_rfl) (by kernel_rfl) laws_szStringS_de ((laws_szStringS_tie n a0 left1).trans h)
noncomputable def laws_szBill_code : Code := match Try.f173.body with | some c => c | none => .skip
def laws_szBill_ann : Ann := fun id => none
def laws_szBill_Ls (n : Nat) : Nat → Option (LSpec T) := fun id => none
theorem laws_szBill_tie (n : Nat) (a0 : SBill) (left1 : Int) : evF (T := T) (Phi n 5) (laws_szBill_Ls n) laws_szBill_ann n Try.f173 (sg 173) [vA T 215 a0, vA T 3 left1] laws_szBill_dec = laws_szBill n a0 left1 := by kernel_rfl
theorem laws_szBill_lo (n : Nat) : LoopsOk (T := T) (Phi n 5) (laws_szBill_Ls n) laws_szBill_ann n laws_szBill_code := loopsOk_all (cs := []) (by kernel_rfl) trivial
theorem laws_szBill_ok (n : Nat) : EntOk Try.prog (ents n) (laws_szBill_ent n) := by
  intro hs ar y hg h
  replace h : laws_szBill_D n ar = some y := h
  unfold laws_szBill_D at h
  replace h := ocons_some h
  obtain ⟨a0, r0, rfl, h⟩ := h
  replace h := ocons_some h
  obtain ⟨a1, r1, rfl, h⟩ := h
  replace h := onil_some h
  obtain ⟨rfl, h⟩ := h
  obtain ⟨a0, qh0, h⟩ := obind_some h
  obtain ⟨left1, qh1, h⟩ := obind_some h
  rw [argV_eq ok qh0, argV_eq ok qh1]
  exact call_of (phiE_nat _ _) hs ok mixed Try.func173 (c := laws_szBill_code) (by kernel_rfl) (laws_szBill_lo n) (by kernel_rfl) (by kernel_rfl) (by kernel_rfl) laws_szBill_de ((laws_szBill_tie n a0 left1).trans h)
noncomputable def laws_szBillS_code : Code := match Try.f82.body with | some c => c | none => .skip
def laws_szBillS_5_sv : List Sv := [.one (.arr 215), .one (.int .i64), .one (.int .i64)]
def laws_szBillS_5_so : List So := []
def laws_szBillS_5_emb (c : List SBill) (x : Int × Int) : EVs T laws_szBillS_5_sv × EOs T laws_szBillS_5_so := ((c, x.1, x.2, ()), ())
def laws_szBillS_5_prj (y : EVs T laws_szBillS_5_sv × EOs T laws_szBillS_5_so) : List SBill × (Int × Int) := ((y.1.1), (y.1.2.1, y.1.2.2.1))
def laws_szBillS_5_b (n : Nat) {R : Type} (K : Ex → Sm.St T → Option R) (c : List SBill) (x : Int × Int) (J : (Int × Int) → Option R) : Option R :=
  laws_szBillS_L5 n (fun (y0 : Int) => K (.exit 0) (stOf (T := T) [1] [] [.one (.int .i64)] [] (y0, ()) ())) (fun (y0 : Int) => K .ret (stOf (T := T) [4] [] [.one (.int .i64)] [] (y0, ()) ())) (fun z0 z1 => J (z0, z1)) c x.1 x.2
def laws_szBillS_5_sp (n : Nat) : LSpec T := mkSpec T ⟨[], [0, 1, 5], []⟩ laws_szBillS_5_sv laws_szBillS_5_so (List SBill) (Int × Int) laws_szBillS_5_emb laws_szBillS_5_prj (laws_szBillS_5_b n)
noncomputable def laws_szBillS_5_c : Code := ((loopCodes laws_szBillS_code)[0]?).getD .skip
def laws_szBillS_ann : Ann := fun id => bif Nat.beq id 3000005 then some ⟨[], [1], []⟩ else bif Nat.beq id 2000005 then some ⟨[], [4], []⟩ else none
def laws_szBillS_Ls (n : Nat) : Nat → Option (LSpec T) := fun id => bif Nat.beq id 5 then some (laws_szBillS_5_sp n) else none
theorem laws_szBillS_5_le (n : Nat) : LoopEq (T := T) (Phi n 6) (laws_szBillS_Ls n) laws_szBillS_ann n laws_szBillS_5_c (laws_szBillS_5_sp n) := ⟨mkSpec_dec (fun y => rfl), fun c x => by kernel_rfl, fun K J c x => by kernel_rfl⟩
theorem laws_szBillS_tie (n : Nat) (a0 : List SBill) (left1 : Int) : evF (T := T) (Phi n 6) (laws_szBillS_Ls n) laws_szBillS_ann n Try.f82 (sg 82) [vA T 22 a0, vA T 3 left1] laws_szBillS_dec = laws_szBillS n a0 left1 := by kernel_rfl
theorem laws_szBillS_lo (n : Nat) : LoopsOk (T := T) (Phi n 6) (laws_szBillS_Ls n) laws_szBillS_ann n laws_szBillS_code := loopsOk_all (cs := [laws_szBillS_5_c]) (by kernel_rfl) ⟨⟨_, by kernel_rfl, laws_szBillS_5_le n⟩, trivial⟩
theorem laws_szBillS_ok (n : Nat) : EntOk Try.prog (ents n) (laws_szBillS_ent n) := by
  intro hs ar y hg h
  replace h : laws_szBillS_D n ar = some y := h
  unfold laws_szBillS_D at h
  replace h := ocons_some h
  obtain ⟨a0, r0, rfl, h⟩ := h
  replace h := ocons_some h
  obtain ⟨a1, r1, rfl, h⟩ := h
  replace h := onil_some h
  obtain ⟨rfl, h⟩ := h
  obtain ⟨a0, qh0, h⟩ := obind_some h
  obtain ⟨left1, qh1, h⟩ := obind_some h
  rw [argV_eq ok qh0, argV_eq ok qh1]
  exact call_of (phiE_nat _ _) hs ok mixed Try.func82 (c := laws_szBillS_code) (by kernel_rfl) (laws_szBillS_lo n) (by kernel_rfl) (by kernel_rfl) (by kernel_rfl) laws_szBillS_de ((laws_szBillS_tie n a0 left1).trans h)
noncomputable def laws_szBook_code : Code := match Try.f14.body with | some c => c | none => .skip
def laws_szBook_ann : Ann := fun id => none
def laws_szBook_Ls (n : Nat) : Nat → Option (LSpec T) := fun id => none
theorem laws_szBook_tie (n : Nat) (a0 : SBook) (left1 : Int) : evF (T := T) (Phi n 7) (laws_szBook_Ls n) laws_szBook_ann n Try.f14 (sg 14) [vA T 25 a0, vA T 3 left1] laws_szBook_dec = laws_szBook n a0 left1 := by kernel_rfl
theorem laws_szBook_lo (n : Nat) : LoopsOk (T := T) (Phi n 7) (laws_szBook_Ls n) laws_szBook_ann n laws_szBook_code := loopsOk_all (cs := []) (by kernel_rfl) trivial
theorem laws_szBook_ok (n : Nat) : EntOk Try.prog (ents n) (laws_szBook_ent n) := by
  intro hs ar y hg h
  replace h : laws_szBook_D n ar = some y := h
  unfold laws_szBook_D at h
  replace h := ocons_some h
  obtain ⟨a0, r0, rfl, h⟩ := h
  replace h := ocons_some h
  obtain ⟨a1, r1, rfl, h⟩ := h
  replace h := onil_some h
  obtain ⟨rfl, h⟩ := h
  obtain ⟨a0, qh0, h⟩ := obind_some h
  obtain ⟨left1, qh1, h⟩ := obind_some h
  rw [argV_eq ok qh0, argV_eq ok qh1]
  exact call_of (phiE_nat _ _) hs ok mixed Try.func14 (c := laws_szBook_code) (by kernel_rfl) (laws_szBook_lo n) (by kernel_rfl) (by kernel_rfl) (by kernel_rfl) laws_szBook_de ((laws_szBook_tie n a0 left1).trans h)
noncomputable def laws_szLotS_code : Code := match Try.f131.body with | some c => c | none => .skip
def laws_szLotS_ann : Ann := fun id => none
def laws_szLotS_Ls (n : Nat) : Nat → Option (LSpec T) := fun id => none
theorem laws_szLotS_tie (n : Nat) (a0 : List SLot) (left1 : Int) : evF (T := T) (Phi n 8) (laws_szLotS_Ls n) laws_szLotS_ann n Try.f131 (sg 131) [vA T 82 a0, vA T 3 left1] laws_szLotS_dec = laws_szLotS n a0 left1 := by kernel_rfl
theorem laws_szLotS_lo (n : Nat) : LoopsOk (T := T) (Phi n 8) (laws_szLotS_Ls n) laws_szLotS_ann n laws_szLotS_code := loopsOk_all (cs := []) (by kernel_rfl) trivial
theorem laws_szLotS_ok (n : Nat) : EntOk Try.prog (ents n) (laws_szLotS_ent n) := by
  intro hs ar y hg h
  replace h : laws_szLotS_D n ar = some y := h
  unfold laws_szLotS_D at h
  replace h := ocons_some h
  obtain ⟨a0, r0, rfl, h⟩ := h
  replace h := ocons_some h
  obtain ⟨a1, r1, rfl, h⟩ := h
  replace h := onil_some h
  obtain ⟨rfl, h⟩ := h
  obtain ⟨a0, qh0, h⟩ := obind_some h
  obtain ⟨left1, qh1, h⟩ := obind_some h
  rw [argV_eq ok qh0, argV_eq ok qh1]
  exact call_of (phiE_nat _ _) hs ok mixed Try.func131 (c := laws_szLotS_code) (by kernel_rfl) (laws_szLotS_lo n) (by kernel_rfl) (by kernel_rfl) (by kernel_rfl) laws_szLotS_de ((laws_szLotS_tie n a0 left1).trans h)
noncomputable def laws_szTraderS_code : Code := match Try.f132.body with | some c => c | none => .skip
def laws_szTraderS_ann : Ann := fun id => none
def laws_szTraderS_Ls (n : Nat) : Nat → Option (LSpec T) := fun id => none
theorem laws_szTraderS_tie (n : Nat) (a0 : List STrader) (left1 : Int) : evF (T := T) (Phi n 9) (laws_szTraderS_Ls n) laws_szTraderS_ann n Try.f132 (sg 132) [vA T 83 a0, vA T 3 left1] laws_szTraderS_dec = laws_szTraderS n a0 left1 := by kernel_rfl
theorem laws_szTraderS_lo (n : Nat) : LoopsOk (T := T) (Phi n 9) (laws_szTraderS_Ls n) laws_szTraderS_ann n laws_szTraderS_code := loopsOk_all (cs := []) (by kernel_rfl) trivial
theorem laws_szTraderS_ok (n : Nat) : EntOk Try.prog (ents n) (laws_szTraderS_ent n) := by
  intro hs ar y hg h
  replace h : laws_szTraderS_D n ar = some y := h
  unfold laws_szTraderS_D at h
  replace h := ocons_some h
  obtain ⟨a0, r0, rfl, h⟩ := h
  replace h := ocons_some h
  obtain ⟨a1, r1, rfl, h⟩ := h
  replace h := onil_some h
  obtain ⟨rfl, h⟩ := h
  obtain ⟨a0, qh0, h⟩ := obind_some h
  obtain ⟨left1, qh1, h⟩ := obind_some h
  rw [argV_eq ok qh0, argV_eq ok qh1]
  exact call_of (phiE_nat _ _) hs ok mixed Try.func132 (c := laws_szTraderS_code) (by kernel_rfl) (laws_szTraderS_lo n) (by kernel_rfl) (by kernel_rfl) (by kernel_rfl) laws_szTraderS_de ((laws_szTraderS_tie n a0 left1).trans h)
noncomputable def laws_szHouse_code : Code := match Try.f48.body with | some c => c | none => .skip
def laws_szHouse_ann : Ann := fun id => none
def laws_szHouse_Ls (n : Nat) : Nat → Option (LSpec T) := fun id => none
theorem laws_szHouse_tie (n : Nat) (a0 : SHouse) (left1 : Int) : evF (T := T) (Phi n 10) (laws_szHouse_Ls n) laws_szHouse_ann n Try.f48 (sg 48) [vA T 85 a0, vA T 3 left1] laws_szHouse_dec = laws_szHouse n a0 left1 := by kernel_rfl
theorem laws_szHouse_lo (n : Nat) : LoopsOk (T := T) (Phi n 10) (laws_szHouse_Ls n) laws_szHouse_ann n laws_szHouse_code := loopsOk_all (cs := []) (by kernel_rfl) trivial
theorem laws_szHouse_ok (n : Nat) : EntOk Try.prog (ents n) (laws_szHouse_ent n) := by
  intro hs ar y hg h
  replace h : laws_szHouse_D n ar = some y := h
  unfold laws_szHouse_D at h
  replace h := ocons_some h
  obtain ⟨a0, r0, rfl, h⟩ := h
  replace h := ocons_some h
  obtain ⟨a1, r1, rfl, h⟩ := h
  replace h := onil_some h
  obtain ⟨rfl, h⟩ := h
  obtain ⟨a0, qh0, h⟩ := obind_some h
  obtain ⟨left1, qh1, h⟩ := obind_some h
  rw [argV_eq ok qh0, argV_eq ok qh1]
  exact call_of (phiE_nat _ _) hs ok mixed Try.func48 (c := laws_szHouse_code) (by kernel_rfl) (laws_szHouse_lo n) (by kernel_rfl) (by kernel_rfl) (by kernel_rfl) laws_szHouse_de ((laws_szHouse_tie n a0 left1).trans h)
noncomputable def laws_szPort_code : Code := match Try.f77.body with | some c => c | none => .skip
def laws_szPort_ann : Ann := fun id => none
def laws_szPort_Ls (n : Nat) : Nat → Option (LSpec T) := fun id => none
theorem laws_szPort_tie (n : Nat) (a0 : SPort) (left1 : Int) : evF (T := T) (Phi n 11) (laws_szPort_Ls n) laws_szPort_ann n Try.f77 (sg 77) [vA T 136 a0, vA T 3 left1] laws_szPort_dec = laws_szPort n a0 left1 := by kernel_rfl
theorem laws_szPort_lo (n : Nat) : LoopsOk (T := T) (Phi n 11) (laws_szPort_Ls n) laws_szPort_ann n laws_szPort_code := loopsOk_all (cs := []) (by kernel_rfl) trivial
theorem laws_szPort_ok (n : Nat) : EntOk Try.prog (ents n) (laws_szPort_ent n) := by
  intro hs ar y hg h
  replace h : laws_szPort_D n ar = some y := h
  unfold laws_szPort_D at h
  replace h := ocons_some h
  obtain ⟨a0, r0, rfl, h⟩ := h
  replace h := ocons_some h
  obtain ⟨a1, r1, rfl, h⟩ := h
  replace h := onil_some h
  obtain ⟨rfl, h⟩ := h
  obtain ⟨a0, qh0, h⟩ := obind_some h
  obtain ⟨left1, qh1, h⟩ := obind_some h
  rw [argV_eq ok qh0, argV_eq ok qh1]
  exact call_of (phiE_nat _ _) hs ok mixed Try.func77 (c := laws_szPort_code) (by kernel_rfl) (laws_szPort_lo n) (by kernel_rfl) (by kernel_rfl) (by kernel_rfl) laws_szPort_de ((laws_szPort_tie n a0 left1).trans h)
noncomputable def laws_toCall_code : Code := match Try.f170.body with | some c => c | none => .skip
def laws_toCall_ann : Ann := fun id => none
def laws_toCall_Ls (n : Nat) : Nat → Option (LSpec T) := fun id => none
theorem laws_toCall_tie (n : Nat) (a0 : SCall) : evF (T := T) (Phi n 12) (laws_toCall_Ls n) laws_toCall_ann n Try.f170 (sg 170) [vA T 213 a0] laws_toCall_dec = laws_toCall n a0 := by kernel_rfl
theorem laws_toCall_lo (n : Nat) : LoopsOk (T := T) (Phi n 12) (laws_toCall_Ls n) laws_toCall_ann n laws_toCall_code := loopsOk_all (cs := []) (by kernel_rfl) trivial
theorem laws_toCall_ok (n : Nat) : EntOk Try.prog (ents n) (laws_toCall_ent n) := by
  intro hs ar y hg h
  replace h : laws_toCall_D n ar = some y := h
  unfold laws_toCall_D at h
  replace h := ocons_some h
  obtain ⟨a0, r0, rfl, h⟩ := h
  replace h := onil_some h
  obtain ⟨rfl, h⟩ := h
  obtain ⟨a0, qh0, h⟩ := obind_some h
  rw [argV_eq ok qh0]
  exact call_of (phiE_nat _ _) hs ok mixed Try.func170 (c := laws_toCall_code) (by kernel_rfl) (laws_toCall_lo n) (by kernel_rfl) (by kernel_rfl) (by kernel_rfl) laws_toCall_de ((laws_toCall_tie n a0).trans h)
noncomputable def laws_toCallS_code : Code := match Try.f73.body with | some c => c | none => .skip
def laws_toCallS_3_sv : List Sv := [.one (.arr 213), .one (.own 3000000 126 false), .one (.int .i64)]
def laws_toCallS_3_so : List So := [.arr 126 false]
def laws_toCallS_3_emb (c : List SCall) (x : Int × List SCall) : EVs T laws_toCallS_3_sv × EOs T laws_toCallS_3_so := ((c, (), x.1, ()), (x.2, ()))
def laws_toCallS_3_prj (y : EVs T laws_toCallS_3_sv × EOs T laws_toCallS_3_so) : List SCall × (Int × List SCall) := ((y.1.1), (y.1.2.2.1, y.2.1))
def laws_toCallS_3_b (n : Nat) {R : Type} (K : Ex → Sm.St T → Option R) (c : List SCall) (x : Int × List SCall) (J : (Int × List SCall) → Option R) : Option R :=
  laws_toCallS_L3 n (fun (y0 : List SCall) => K (.exit 0) (stOf (T := T) [3] [3000000] [.one (.own 3000000 126 false)] [.arr 126 false] ((), ()) (y0, ()))) (fun z0 z1 => J (z0, z1)) c x.1 x.2
def laws_toCallS_3_sp (n : Nat) : LSpec T := mkSpec T ⟨[((.reg 3), 3000000, 126)], [0, 3, 4], [3000000]⟩ laws_toCallS_3_sv laws_toCallS_3_so (List SCall) (Int × List SCall) laws_toCallS_3_emb laws_toCallS_3_prj (laws_toCallS_3_b n)
noncomputable def laws_toCallS_3_c : Code := ((loopCodes laws_toCallS_code)[0]?).getD .skip
def laws_toCallS_ann : Ann := fun id => bif Nat.beq id 3000003 then some ⟨[((.reg 3), 3000000, 126)], [3], [3000000]⟩ else none
def laws_toCallS_Ls (n : Nat) : Nat → Option (LSpec T) := fun id => bif Nat.beq id 3 then some (laws_toCallS_3_sp n) else none
theorem laws_toCallS_3_le (n : Nat) : LoopEq (T := T) (Phi n 13) (laws_toCallS_Ls n) laws_toCallS_ann n laws_toCallS_3_c (laws_toCallS_3_sp n) := ⟨mkSpec_dec (fun y => rfl), fun c x => by kernel_rfl, fun K J c x => by kernel_rfl⟩
theorem laws_toCallS_tie (n : Nat) (a0 : List SCall) : evF (T := T) (Phi n 13) (laws_toCallS_Ls n) laws_toCallS_ann n Try.f73 (sg 73) [vA T 129 a0] laws_toCallS_dec = laws_toCallS n a0 := by kernel_rfl
theorem laws_toCallS_lo (n : Nat) : LoopsOk (T := T) (Phi n 13) (laws_toCallS_Ls n) laws_toCallS_ann n laws_toCallS_code := loopsOk_all (cs := [laws_toCallS_3_c]) (by kernel_rfl) ⟨⟨_, by kernel_rfl, laws_toCallS_3_le n⟩, trivial⟩
theorem laws_toCallS_ok (n : Nat) : EntOk Try.prog (ents n) (laws_toCallS_ent n) := by
  intro hs ar y hg h
  replace h : laws_toCallS_D n ar = some y := h
  unfold laws_toCallS_D at h
  replace h := ocons_some h
  obtain ⟨a0, r0, rfl, h⟩ := h
  replace h := onil_some h
  obtain ⟨rfl, h⟩ := h
  obtain ⟨a0, qh0, h⟩ := obind_some h
  rw [argV_eq ok qh0]
  exact call_of (phiE_nat _ _) hs ok mixed Try.func73 (c := laws_toCallS_code) (by kernel_rfl) (laws_toCallS_lo n) (by kernel_rfl) (by kernel_rfl) (by kernel_rfl) laws_toCallS_de ((laws_toCallS_tie n a0).trans h)
noncomputable def laws_toIntS_code : Code := match Try.f88.body with | some c => c | none => .skip
def laws_toIntS_3_sv : List Sv := [.one (.arr 3), .one (.own 3000000 3 false), .one (.int .i64)]
def laws_toIntS_3_so : List So := [.arr 3 false]
def laws_toIntS_3_emb (c : List Int) (x : Int × List Int) : EVs T laws_toIntS_3_sv × EOs T laws_toIntS_3_so := ((c, (), x.1, ()), (x.2, ()))
def laws_toIntS_3_prj (y : EVs T laws_toIntS_3_sv × EOs T laws_toIntS_3_so) : List Int × (Int × List Int) := ((y.1.1), (y.1.2.2.1, y.2.1))
def laws_toIntS_3_b (n : Nat) {R : Type} (K : Ex → Sm.St T → Option R) (c : List Int) (x : Int × List Int) (J : (Int × List Int) → Option R) : Option R :=
  laws_toIntS_L3 n (fun (y0 : List Int) => K (.exit 0) (stOf (T := T) [3] [3000000] [.one (.own 3000000 3 false)] [.arr 3 false] ((), ()) (y0, ()))) (fun z0 z1 => J (z0, z1)) c x.1 x.2
def laws_toIntS_3_sp (n : Nat) : LSpec T := mkSpec T ⟨[((.reg 3), 3000000, 3)], [0, 3, 4], [3000000]⟩ laws_toIntS_3_sv laws_toIntS_3_so (List Int) (Int × List Int) laws_toIntS_3_emb laws_toIntS_3_prj (laws_toIntS_3_b n)
noncomputable def laws_toIntS_3_c : Code := ((loopCodes laws_toIntS_code)[0]?).getD .skip
def laws_toIntS_ann : Ann := fun id => bif Nat.beq id 3000003 then some ⟨[((.reg 3), 3000000, 3)], [3], [3000000]⟩ else none
def laws_toIntS_Ls (n : Nat) : Nat → Option (LSpec T) := fun id => bif Nat.beq id 3 then some (laws_toIntS_3_sp n) else none
theorem laws_toIntS_3_le (n : Nat) : LoopEq (T := T) (Phi n 14) (laws_toIntS_Ls n) laws_toIntS_ann n laws_toIntS_3_c (laws_toIntS_3_sp n) := ⟨mkSpec_dec (fun y => rfl), fun c x => by kernel_rfl, fun K J c x => by kernel_rfl⟩
theorem laws_toIntS_tie (n : Nat) (a0 : List Int) : evF (T := T) (Phi n 14) (laws_toIntS_Ls n) laws_toIntS_ann n Try.f88 (sg 88) [vA T 23 a0] laws_toIntS_dec = laws_toIntS n a0 := by kernel_rfl
theorem laws_toIntS_lo (n : Nat) : LoopsOk (T := T) (Phi n 14) (laws_toIntS_Ls n) laws_toIntS_ann n laws_toIntS_code := loopsOk_all (cs := [laws_toIntS_3_c]) (by kernel_rfl) ⟨⟨_, by kernel_rfl, laws_toIntS_3_le n⟩, trivial⟩
theorem laws_toIntS_ok (n : Nat) : EntOk Try.prog (ents n) (laws_toIntS_ent n) := by
  intro hs ar y hg h
  replace h : laws_toIntS_D n ar = some y := h
  unfold laws_toIntS_D at h
  replace h := ocons_some h
  obtain ⟨a0, r0, rfl, h⟩ := h
  replace h := onil_some h
  obtain ⟨rfl, h⟩ := h
  obtain ⟨a0, qh0, h⟩ := obind_some h
  rw [argV_eq ok qh0]
  exact call_of (phiE_nat _ _) hs ok mixed Try.func88 (c := laws_toIntS_code) (by kernel_rfl) (laws_toIntS_lo n) (by kernel_rfl) (by kernel_rfl) (by kernel_rfl) laws_toIntS_de ((laws_toIntS_tie n a0).trans h)
noncomputable def laws_toIntSS_code : Code := match Try.f98.body with | some c => c | none => .skip
def laws_toIntSS_3_sv : List Sv := [.one (.arr 23), .one (.own 3000000 23 false), .one (.int .i64)]
def laws_toIntSS_3_so : List So := [.arr 23 false]
def laws_toIntSS_3_emb (c : List (List Int)) (x : Int × List (List Int)) : EVs T laws_toIntSS_3_sv × EOs T laws_toIntSS_3_so := ((c, (), x.1, ()), (x.2, ()))
def laws_toIntSS_3_prj (y : EVs T laws_toIntSS_3_sv × EOs T laws_toIntSS_3_so) : List (List Int) × (Int × List (List Int)) := ((y.1.1), (y.1.2.2.1, y.2.1))
def laws_toIntSS_3_b (n : Nat) {R : Type} (K : Ex → Sm.St T → Option R) (c : List (List Int)) (x : Int × List (List Int)) (J : (Int × List (List Int)) → Option R) : Option R :=
  laws_toIntSS_L3 n (fun (y0 : List (List Int)) => K (.exit 0) (stOf (T := T) [3] [3000000] [.one (.own 3000000 23 false)] [.arr 23 false] ((), ()) (y0, ()))) (fun z0 z1 => J (z0, z1)) c x.1 x.2
def laws_toIntSS_3_sp (n : Nat) : LSpec T := mkSpec T ⟨[((.reg 3), 3000000, 23)], [0, 3, 4], [3000000]⟩ laws_toIntSS_3_sv laws_toIntSS_3_so (List (List Int)) (Int × List (List Int)) laws_toIntSS_3_emb laws_toIntSS_3_prj (laws_toIntSS_3_b n)
noncomputable def laws_toIntSS_3_c : Code := ((loopCodes laws_toIntSS_code)[0]?).getD .skip
def laws_toIntSS_ann : Ann := fun id => bif Nat.beq id 3000003 then some ⟨[((.reg 3), 3000000, 23)], [3], [3000000]⟩ else none
def laws_toIntSS_Ls (n : Nat) : Nat → Option (LSpec T) := fun id => bif Nat.beq id 3 then some (laws_toIntSS_3_sp n) else none
theorem laws_toIntSS_3_le (n : Nat) : LoopEq (T := T) (Phi n 15) (laws_toIntSS_Ls n) laws_toIntSS_ann n laws_toIntSS_3_c (laws_toIntSS_3_sp n) := ⟨mkSpec_dec (fun y => rfl), fun c x => by kernel_rfl, fun K J c x => by kernel_rfl⟩
theorem laws_toIntSS_tie (n : Nat) (a0 : List (List Int)) : evF (T := T) (Phi n 15) (laws_toIntSS_Ls n) laws_toIntSS_ann n Try.f98 (sg 98) [vA T 35 a0] laws_toIntSS_dec = laws_toIntSS n a0 := by kernel_rfl
theorem laws_toIntSS_lo (n : Nat) : LoopsOk (T := T) (Phi n 15) (laws_toIntSS_Ls n) laws_toIntSS_ann n laws_toIntSS_code := loopsOk_all (cs := [laws_toIntSS_3_c]) (by kernel_rfl) ⟨⟨_, by kernel_rfl, laws_toIntSS_3_le n⟩, trivial⟩
theorem laws_toIntSS_ok (n : Nat) : EntOk Try.prog (ents n) (laws_toIntSS_ent n) := by
  intro hs ar y hg h
  replace h : laws_toIntSS_D n ar = some y := h
  unfold laws_toIntSS_D at h
  replace h := ocons_some h
  obtain ⟨a0, r0, rfl, h⟩ := h
  replace h := onil_some h
  obtain ⟨rfl, h⟩ := h
  obtain ⟨a0, qh0, h⟩ := obind_some h
  rw [argV_eq ok qh0]
  exact call_of (phiE_nat _ _) hs ok mixed Try.func98 (c := laws_toIntSS_code) (by kernel_rfl) (laws_toIntSS_lo n) (by kernel_rfl) (by kernel_rfl) (by kernel_rfl) laws_toIntSS_de ((laws_toIntSS_tie n a0).trans h)
noncomputable def laws_toYard_code : Code := match Try.f21.body with | some c => c | none => .skip
def laws_toYard_ann : Ann := fun id => none
def laws_toYard_Ls (n : Nat) : Nat → Option (LSpec T) := fun id => none
theorem laws_toYard_tie (n : Nat) (a0 : SYard) : evF (T := T) (Phi n 16) (laws_toYard_Ls n) laws_toYard_ann n Try.f21 (sg 21) [vA T 37 a0] laws_toYard_dec = laws_toYard n a0 := by kernel_rfl
theorem laws_toYard_lo (n : Nat) : LoopsOk (T := T) (Phi n 16) (laws_toYard_Ls n) laws_toYard_ann n laws_toYard_code := loopsOk_all (cs := []) (by kernel_rfl) trivial
theorem laws_toYard_ok (n : Nat) : EntOk Try.prog (ents n) (laws_toYard_ent n) := by
  intro hs ar y hg h
  replace h : laws_toYard_D n ar = some y := h
  unfold laws_toYard_D at h
  replace h := ocons_some h
  obtain ⟨a0, r0, rfl, h⟩ := h
  replace h := onil_some h
  obtain ⟨rfl, h⟩ := h
  obtain ⟨a0, qh0, h⟩ := obind_some h
  rw [argV_eq ok qh0]
  exact call_of (phiE_nat _ _) hs ok mixed Try.func21 (c := laws_toYard_code) (by kernel_rfl) (laws_toYard_lo n) (by kernel_rfl) (by kernel_rfl) (by kernel_rfl) laws_toYard_de ((laws_toYard_tie n a0).trans h)
noncomputable def laws_toStringS_code : Code := match Try.f215.body with | some c => c | none => .skip
def laws_toStringS_3_sv : List Sv := [.one (.arr 9), .one (.own 3000000 9 false), .one (.int .i64)]
def laws_toStringS_3_so : List So := [.arr 9 false]
def laws_toStringS_3_emb (c : List ByteArray) (x : Int × List ByteArray) : EVs T laws_toStringS_3_sv × EOs T laws_toStringS_3_so := ((c, (), x.1, ()), (x.2, ()))
def laws_toStringS_3_prj (y : EVs T laws_toStringS_3_sv × EOs T laws_toStringS_3_so) : List ByteArray × (Int × List ByteArray) := ((y.1.1), (y.1.2.2.1, y.2.1))
def laws_toStringS_3_b (n : Nat) {R : Type} (K : Ex → Sm.St T → Option R) (c : List ByteArray) (x : Int × List ByteArray) (J : (Int × List ByteArray) → Option R) : Option R :=
  laws_toStringS_L3 n (fun (y0 : List ByteArray) => K (.exit 0) (stOf (T := T) [3] [3000000] [.one (.own 3000000 9 false)] [.arr 9 false] ((), ()) (y0, ()))) (fun z0 z1 => J (z0, z1)) c x.1 x.2
def laws_toStringS_3_sp (n : Nat) : LSpec T := mkSpec T ⟨[((.reg 3), 3000000, 9)], [0, 3, 4], [3000000]⟩ laws_toStringS_3_sv laws_toStringS_3_so (List ByteArray) (Int × List ByteArray) laws_toStringS_3_emb laws_toStringS_3_prj (laws_toStringS_3_b n)
noncomputable def laws_toStringS_3_c : Code := ((loopCodes laws_toStringS_code)[0]?).getD .skip
def laws_toStringS_ann : Ann := fun id => bif Nat.beq id 3000003 then some ⟨[((.reg 3), 3000000, 9)], [3], [3000000]⟩ else none
def laws_toStringS_Ls (n : Nat) : Nat → Option (LSpec T) := fun id => bif Nat.beq id 3 then some (laws_toStringS_3_sp n) else none
theorem laws_toStringS_3_le (n : Nat) : LoopEq (T := T) (Phi n 17) (laws_toStringS_Ls n) laws_toStringS_ann n laws_toStringS_3_c (laws_toStringS_3_sp n) := ⟨mkSpec_dec (fun y => rfl), fun c x => by kernel_rfl, fun K J c x => by kernel_rfl⟩
theorem laws_toStringS_tie (n : Nat) (a0 : List ByteArray) : evF (T := T) (Phi n 17) (laws_toStringS_Ls n) laws_toStringS_ann n Try.f215 (sg 215) [vA T 77 a0] laws_toStringS_dec = laws_toStringS n a0 := by kernel_rfl
theorem laws_toStringS_lo (n : Nat) : LoopsOk (T := T) (Phi n 17) (laws_toStringS_Ls n) laws_toStringS_ann n laws_toStringS_code := loopsOk_all (cs := [laws_toStringS_3_c]) (by kernel_rfl) ⟨⟨_, by kernel_rfl, laws_toStringS_3_le n⟩, trivial⟩
theorem laws_toStringS_ok (n : Nat) : EntOk Try.prog (ents n) (laws_toStringS_ent n) := by
  intro hs ar y hg h
  replace h : laws_toStringS_D n ar = some y := h
  unfold laws_toStringS_D at h
  replace h := ocons_some h
  obtain ⟨a0, r0, rfl, h⟩ := h
  replace h := onil_some h
  obtain ⟨rfl, h⟩ := h
  obtain ⟨a0, qh0, h⟩ := obind_some h
  rw [argV_eq ok qh0]
  exact call_of (phiE_nat _ _) hs ok mixed Try.func215 (c := laws_toStringS_code) (by kernel_rfl) (laws_toStringS_lo n) (by kernel_rfl) (by kernel_rfl) (by kernel_rfl) laws_toStringS_de ((laws_toStringS_tie n a0).trans h)
noncomputable def laws_toBill_code : Code := match Try.f176.body with | some c => c | none => .skip
def laws_toBill_ann : Ann := fun id => none
def laws_toBill_Ls (n : Nat) : Nat → Option (LSpec T) := fun id => none
theorem laws_toBill_tie (n : Nat) (a0 : SBill) : evF (T := T) (Phi n 18) (laws_toBill_Ls n) laws_toBill_ann n Try.f176 (sg 176) [vA T 215 a0] laws_toBill_dec = laws_toBill n a0 := by kernel_rfl
theorem laws_toBill_lo (n : Nat) : LoopsOk (T := T) (Phi n 18) (laws_toBill_Ls n) laws_toBill_ann n laws_toBill_code := loopsOk_all (cs := []) (by kernel_rfl) trivial
theorem laws_toBill_ok (n : Nat) : EntOk Try.prog (ents n) (laws_toBill_ent n) := by
  intro hs ar y hg h
  replace h : laws_toBill_D n ar = some y := h
  unfold laws_toBill_D at h
  replace h := ocons_some h
  obtain ⟨a0, r0, rfl, h⟩ := h
  replace h := onil_some h
  obtain ⟨rfl, h⟩ := h
  obtain ⟨a0, qh0, h⟩ := obind_some h
  rw [argV_eq ok qh0]
  exact call_of (phiE_nat _ _) hs ok mixed Try.func176 (c := laws_toBill_code) (by kernel_rfl) (laws_toBill_lo n) (by kernel_rfl) (by kernel_rfl) (by kernel_rfl) laws_toBill_de ((laws_toBill_tie n a0).trans h)
noncomputable def laws_toBillS_code : Code := match Try.f87.body with | some c => c | none => .skip
def laws_toBillS_3_sv : List Sv := [.one (.arr 215), .one (.own 3000000 79 false), .one (.int .i64)]
def laws_toBillS_3_so : List So := [.arr 79 false]
def laws_toBillS_3_emb (c : List SBill) (x : Int × List SBill) : EVs T laws_toBillS_3_sv × EOs T laws_toBillS_3_so := ((c, (), x.1, ()), (x.2, ()))
def laws_toBillS_3_prj (y : EVs T laws_toBillS_3_sv × EOs T laws_toBillS_3_so) : List SBill × (Int × List SBill) := ((y.1.1), (y.1.2.2.1, y.2.1))
def laws_toBillS_3_b (n : Nat) {R : Type} (K : Ex → Sm.St T → Option R) (c : List SBill) (x : Int × List SBill) (J : (Int × List SBill) → Option R) : Option R :=
  laws_toBillS_L3 n (fun (y0 : List SBill) => K (.exit 0) (stOf (T := T) [3] [3000000] [.one (.own 3000000 79 false)] [.arr 79 false] ((), ()) (y0, ()))) (fun z0 z1 => J (z0, z1)) c x.1 x.2
def laws_toBillS_3_sp (n : Nat) : LSpec T := mkSpec T ⟨[((.reg 3), 3000000, 79)], [0, 3, 4], [3000000]⟩ laws_toBillS_3_sv laws_toBillS_3_so (List SBill) (Int × List SBill) laws_toBillS_3_emb laws_toBillS_3_prj (laws_toBillS_3_b n)
noncomputable def laws_toBillS_3_c : Code := ((loopCodes laws_toBillS_code)[0]?).getD .skip
def laws_toBillS_ann : Ann := fun id => bif Nat.beq id 3000003 then some ⟨[((.reg 3), 3000000, 79)], [3], [3000000]⟩ else none
def laws_toBillS_Ls (n : Nat) : Nat → Option (LSpec T) := fun id => bif Nat.beq id 3 then some (laws_toBillS_3_sp n) else none
theorem laws_toBillS_3_le (n : Nat) : LoopEq (T := T) (Phi n 19) (laws_toBillS_Ls n) laws_toBillS_ann n laws_toBillS_3_c (laws_toBillS_3_sp n) := ⟨mkSpec_dec (fun y => rfl), fun c x => by kernel_rfl, fun K J c x => by kernel_rfl⟩
theorem laws_toBillS_tie (n : Nat) (a0 : List SBill) : evF (T := T) (Phi n 19) (laws_toBillS_Ls n) laws_toBillS_ann n Try.f87 (sg 87) [vA T 22 a0] laws_toBillS_dec = laws_toBillS n a0 := by kernel_rfl
theorem laws_toBillS_lo (n : Nat) : LoopsOk (T := T) (Phi n 19) (laws_toBillS_Ls n) laws_toBillS_ann n laws_toBillS_code := loopsOk_all (cs := [laws_toBillS_3_c]) (by kernel_rfl) ⟨⟨_, by kernel_rfl, laws_toBillS_3_le n⟩, trivial⟩
theorem laws_toBillS_ok (n : Nat) : EntOk Try.prog (ents n) (laws_toBillS_ent n) := by
  intro hs ar y hg h
  replace h : laws_toBillS_D n ar = some y := h
  unfold laws_toBillS_D at h
  replace h := ocons_some h
  obtain ⟨a0, r0, rfl, h⟩ := h
  replace h := onil_some h
  obtain ⟨rfl, h⟩ := h
  obtain ⟨a0, qh0, h⟩ := obind_some h
  rw [argV_eq ok qh0]
  exact call_of (phiE_nat _ _) hs ok mixed Try.func87 (c := laws_toBillS_code) (by kernel_rfl) (laws_toBillS_lo n) (by kernel_rfl) (by kernel_rfl) (by kernel_rfl) laws_toBillS_de ((laws_toBillS_tie n a0).trans h)
noncomputable def laws_toBook_code : Code := match Try.f16.body with | some c => c | none => .skip
def laws_toBook_ann : Ann := fun id => none
def laws_toBook_Ls (n : Nat) : Nat → Option (LSpec T) := fun id => none
theorem laws_toBook_tie (n : Nat) (a0 : SBook) : evF (T := T) (Phi n 20) (laws_toBook_Ls n) laws_toBook_ann n Try.f16 (sg 16) [vA T 25 a0] laws_toBook_dec = laws_toBook n a0 := by kernel_rfl
theorem laws_toBook_lo (n : Nat) : LoopsOk (T := T) (Phi n 20) (laws_toBook_Ls n) laws_toBook_ann n laws_toBook_code := loopsOk_all (cs := []) (by kernel_rfl) trivial
theorem laws_toBook_ok (n : Nat) : EntOk Try.prog (ents n) (laws_toBook_ent n) := by
  intro hs ar y hg h
  replace h : laws_toBook_D n ar = some y := h
  unfold laws_toBook_D at h
  replace h := ocons_some h
  obtain ⟨a0, r0, rfl, h⟩ := h
  replace h := onil_some h
  obtain ⟨rfl, h⟩ := h
  obtain ⟨a0, qh0, h⟩ := obind_some h
  rw [argV_eq ok qh0]
  exact call_of (phiE_nat _ _) hs ok mixed Try.func16 (c := laws_toBook_code) (by kernel_rfl) (laws_toBook_lo n) (by kernel_rfl) (by kernel_rfl) (by kernel_rfl) laws_toBook_de ((laws_toBook_tie n a0).trans h)
noncomputable def laws_toLot_code : Code := match Try.f199.body with | some c => c | none => .skip
def laws_toLot_ann : Ann := fun id => none
def laws_toLot_Ls (n : Nat) : Nat → Option (LSpec T) := fun id => none
theorem laws_toLot_tie (n : Nat) (a0 : SLot) : evF (T := T) (Phi n 21) (laws_toLot_Ls n) laws_toLot_ann n Try.f199 (sg 199) [vA T 239 a0] laws_toLot_dec = laws_toLot n a0 := by kernel_rfl
theorem laws_toLot_lo (n : Nat) : LoopsOk (T := T) (Phi n 21) (laws_toLot_Ls n) laws_toLot_ann n laws_toLot_code := loopsOk_all (cs := []) (by kernel_rfl) trivial
theorem laws_toLot_ok (n : Nat) : EntOk Try.prog (ents n) (laws_toLot_ent n) := by
  intro hs ar y hg h
  replace h : laws_toLot_D n ar = some y := h
  unfold laws_toLot_D at h
  replace h := ocons_some h
  obtain ⟨a0, r0, rfl, h⟩ := h
  replace h := onil_some h
  obtain ⟨rfl, h⟩ := h
  obtain ⟨a0, qh0, h⟩ := obind_some h
  rw [argV_eq ok qh0]
  exact call_of (phiE_nat _ _) hs ok mixed Try.func199 (c := laws_toLot_code) (by kernel_rfl) (laws_toLot_lo n) (by kernel_rfl) (by kernel_rfl) (by kernel_rfl) laws_toLot_de ((laws_toLot_tie n a0).trans h)
noncomputable def laws_toLotS_code : Code := match Try.f139.body with | some c => c | none => .skip
def laws_toLotS_3_sv : List Sv := [.one (.arr 239), .one (.own 3000000 116 false), .one (.int .i64)]
def laws_toLotS_3_so : List So := [.arr 116 false]
def laws_toLotS_3_emb (c : List SLot) (x : Int × List SLot) : EVs T laws_toLotS_3_sv × EOs T laws_toLotS_3_so := ((c, (), x.1, ()), (x.2, ()))
def laws_toLotS_3_prj (y : EVs T laws_toLotS_3_sv × EOs T laws_toLotS_3_so) : List SLot × (Int × List SLot) := ((y.1.1), (y.1.2.2.1, y.2.1))
def laws_toLotS_3_b (n : Nat) {R : Type} (K : Ex → Sm.St T → Option R) (c : List SLot) (x : Int × List SLot) (J : (Int × List SLot) → Option R) : Option R :=
  laws_toLotS_L3 n (fun (y0 : List SLot) => K (.exit 0) (stOf (T := T) [3] [3000000] [.one (.own 3000000 116 false)] [.arr 116 false] ((), ()) (y0, ()))) (fun z0 z1 => J (z0, z1)) c x.1 x.2
def laws_toLotS_3_sp (n : Nat) : LSpec T := mkSpec T ⟨[((.reg 3), 3000000, 116)], [0, 3, 4], [3000000]⟩ laws_toLotS_3_sv laws_toLotS_3_so (List SLot) (Int × List SLot) laws_toLotS_3_emb laws_toLotS_3_prj (laws_toLotS_3_b n)
noncomputable def laws_toLotS_3_c : Code := ((loopCodes laws_toLotS_code)[0]?).getD .skip
def laws_toLotS_ann : Ann := fun id => bif Nat.beq id 3000003 then some ⟨[((.reg 3), 3000000, 116)], [3], [3000000]⟩ else none
def laws_toLotS_Ls (n : Nat) : Nat → Option (LSpec T) := fun id => bif Nat.beq id 3 then some (laws_toLotS_3_sp n) else none
theorem laws_toLotS_3_le (n : Nat) : LoopEq (T := T) (Phi n 22) (laws_toLotS_Ls n) laws_toLotS_ann n laws_toLotS_3_c (laws_toLotS_3_sp n) := ⟨mkSpec_dec (fun y => rfl), fun c x => by kernel_rfl, fun K J c x => by kernel_rfl⟩
theorem laws_toLotS_tie (n : Nat) (a0 : List SLot) : evF (T := T) (Phi n 22) (laws_toLotS_Ls n) laws_toLotS_ann n Try.f139 (sg 139) [vA T 82 a0] laws_toLotS_dec = laws_toLotS n a0 := by kernel_rfl
theorem laws_toLotS_lo (n : Nat) : LoopsOk (T := T) (Phi n 22) (laws_toLotS_Ls n) laws_toLotS_ann n laws_toLotS_code := loopsOk_all (cs := [laws_toLotS_3_c]) (by kernel_rfl) ⟨⟨_, by kernel_rfl, laws_toLotS_3_le n⟩, trivial⟩
theorem laws_toLotS_ok (n : Nat) : EntOk Try.prog (ents n) (laws_toLotS_ent n) := by
  intro hs ar y hg h
  replace h : laws_toLotS_D n ar = some y := h
  unfold laws_toLotS_D at h
  replace h := ocons_some h
  obtain ⟨a0, r0, rfl, h⟩ := h
  replace h := onil_some h
  obtain ⟨rfl, h⟩ := h
  obtain ⟨a0, qh0, h⟩ := obind_some h
  rw [argV_eq ok qh0]
  exact call_of (phiE_nat _ _) hs ok mixed Try.func139 (c := laws_toLotS_code) (by kernel_rfl) (laws_toLotS_lo n) (by kernel_rfl) (by kernel_rfl) (by kernel_rfl) laws_toLotS_de ((laws_toLotS_tie n a0).trans h)
noncomputable def laws_toTrader_code : Code := match Try.f200.body with | some c => c | none => .skip
def laws_toTrader_ann : Ann := fun id => none
def laws_toTrader_Ls (n : Nat) : Nat → Option (LSpec T) := fun id => none
theorem laws_toTrader_tie (n : Nat) (a0 : STrader) : evF (T := T) (Phi n 23) (laws_toTrader_Ls n) laws_toTrader_ann n Try.f200 (sg 200) [vA T 241 a0] laws_toTrader_dec = laws_toTrader n a0 := by kernel_rfl
theorem laws_toTrader_lo (n : Nat) : LoopsOk (T := T) (Phi n 23) (laws_toTrader_Ls n) laws_toTrader_ann n laws_toTrader_code := loopsOk_all (cs := []) (by kernel_rfl) trivial
theorem laws_toTrader_ok (n : Nat) : EntOk Try.prog (ents n) (laws_toTrader_ent n) := by
  intro hs ar y hg h
  replace h : laws_toTrader_D n ar = some y := h
  unfold laws_toTrader_D at h
  replace h := ocons_some h
  obtain ⟨a0, r0, rfl, h⟩ := h
  replace h := onil_some h
  obtain ⟨rfl, h⟩ := h
  obtain ⟨a0, qh0, h⟩ := obind_some h
  rw [argV_eq ok qh0]
  exact call_of (phiE_nat _ _) hs ok mixed Try.func200 (c := laws_toTrader_code) (by kernel_rfl) (laws_toTrader_lo n) (by kernel_rfl) (by kernel_rfl) (by kernel_rfl) laws_toTrader_de ((laws_toTrader_tie n a0).trans h)
noncomputable def laws_toTraderS_code : Code := match Try.f140.body with | some c => c | none => .skip
def laws_toTraderS_3_sv : List Sv := [.one (.arr 241), .one (.own 3000000 114 false), .one (.int .i64)]
def laws_toTraderS_3_so : List So := [.arr 114 false]
def laws_toTraderS_3_emb (c : List STrader) (x : Int × List STrader) : EVs T laws_toTraderS_3_sv × EOs T laws_toTraderS_3_so := ((c, (), x.1, ()), (x.2, ()))
def laws_toTraderS_3_prj (y : EVs T laws_toTraderS_3_sv × EOs T laws_toTraderS_3_so) : List STrader × (Int × List STrader) := ((y.1.1), (y.1.2.2.1, y.2.1))
def laws_toTraderS_3_b (n : Nat) {R : Type} (K : Ex → Sm.St T → Option R) (c : List STrader) (x : Int × List STrader) (J : (Int × List STrader) → Option R) : Option R :=
  laws_toTraderS_L3 n (fun (y0 : List STrader) => K (.exit 0) (stOf (T := T) [3] [3000000] [.one (.own 3000000 114 false)] [.arr 114 false] ((), ()) (y0, ()))) (fun z0 z1 => J (z0, z1)) c x.1 x.2
def laws_toTraderS_3_sp (n : Nat) : LSpec T := mkSpec T ⟨[((.reg 3), 3000000, 114)], [0, 3, 4], [3000000]⟩ laws_toTraderS_3_sv laws_toTraderS_3_so (List STrader) (Int × List STrader) laws_toTraderS_3_emb laws_toTraderS_3_prj (laws_toTraderS_3_b n)
noncomputable def laws_toTraderS_3_c : Code := ((loopCodes laws_toTraderS_code)[0]?).getD .skip
def laws_toTraderS_ann : Ann := fun id => bif Nat.beq id 3000003 then some ⟨[((.reg 3), 3000000, 114)], [3], [3000000]⟩ else none
def laws_toTraderS_Ls (n : Nat) : Nat → Option (LSpec T) := fun id => bif Nat.beq id 3 then some (laws_toTraderS_3_sp n) else none
theorem laws_toTraderS_3_le (n : Nat) : LoopEq (T := T) (Phi n 24) (laws_toTraderS_Ls n) laws_toTraderS_ann n laws_toTraderS_3_c (laws_toTraderS_3_sp n) := ⟨mkSpec_dec (fun y => rfl), fun c x => by kernel_rfl, fun K J c x => by kernel_rfl⟩
theorem laws_toTraderS_tie (n : Nat) (a0 : List STrader) : evF (T := T) (Phi n 24) (laws_toTraderS_Ls n) laws_toTraderS_ann n Try.f140 (sg 140) [vA T 83 a0] laws_toTraderS_dec = laws_toTraderS n a0 := by kernel_rfl
theorem laws_toTraderS_lo (n : Nat) : LoopsOk (T := T) (Phi n 24) (laws_toTraderS_Ls n) laws_toTraderS_ann n laws_toTraderS_code := loopsOk_all (cs := [laws_toTraderS_3_c]) (by kernel_rfl) ⟨⟨_, by kernel_rfl, laws_toTraderS_3_le n⟩, trivial⟩
theorem laws_toTraderS_ok (n : Nat) : EntOk Try.prog (ents n) (laws_toTraderS_ent n) := by
  intro hs ar y hg h
  replace h : laws_toTraderS_D n ar = some y := h
  unfold laws_toTraderS_D at h
  replace h := ocons_some h
  obtain ⟨a0, r0, rfl, h⟩ := h
  replace h := onil_some h
  obtain ⟨rfl, h⟩ := h
  obtain ⟨a0, qh0, h⟩ := obind_some h
  rw [argV_eq ok qh0]
  exact call_of (phiE_nat _ _) hs ok mixed Try.func140 (c := laws_toTraderS_code) (by kernel_rfl) (laws_toTraderS_lo n) (by kernel_rfl) (by kernel_rfl) (by kernel_rfl) laws_toTraderS_de ((laws_toTraderS_tie n a0).trans h)
noncomputable def laws_toHouse_code : Code := match Try.f50.body with | some c => c | none => .skip
def laws_toHouse_ann : Ann := fun id => none
def laws_toHouse_Ls (n : Nat) : Nat → Option (LSpec T) := fun id => none
theorem laws_toHouse_tie (n : Nat) (a0 : SHouse) : evF (T := T) (Phi n 25) (laws_toHouse_Ls n) laws_toHouse_ann n Try.f50 (sg 50) [vA T 85 a0] laws_toHouse_dec = laws_toHouse n a0 := by kernel_rfl
theorem laws_toHouse_lo (n : Nat) : LoopsOk (T := T) (Phi n 25) (laws_toHouse_Ls n) laws_toHouse_ann n laws_toHouse_code := loopsOk_all (cs := []) (by kernel_rfl) trivial
theorem laws_toHouse_ok (n : Nat) : EntOk Try.prog (ents n) (laws_toHouse_ent n) := by
  intro hs ar y hg h
  replace h : laws_toHouse_D n ar = some y := h
  unfold laws_toHouse_D at h
  replace h := ocons_some h
  obtain ⟨a0, r0, rfl, h⟩ := h
  replace h := onil_some h
  obtain ⟨rfl, h⟩ := h
  obtain ⟨a0, qh0, h⟩ := obind_some h
  rw [argV_eq ok qh0]
  exact call_of (phiE_nat _ _) hs ok mixed Try.func50 (c := laws_toHouse_code) (by kernel_rfl) (laws_toHouse_lo n) (by kernel_rfl) (by kernel_rfl) (by kernel_rfl) laws_toHouse_de ((laws_toHouse_tie n a0).trans h)
noncomputable def laws_toPort_code : Code := match Try.f79.body with | some c => c | none => .skip
def laws_toPort_ann : Ann := fun id => none
def laws_toPort_Ls (n : Nat) : Nat → Option (LSpec T) := fun id => none
theorem laws_toPort_tie (n : Nat) (a0 : SPort) : evF (T := T) (Phi n 26) (laws_toPort_Ls n) laws_toPort_ann n Try.f79 (sg 79) [vA T 136 a0] laws_toPort_dec = laws_toPort n a0 := by kernel_rfl
theorem laws_toPort_lo (n : Nat) : LoopsOk (T := T) (Phi n 26) (laws_toPort_Ls n) laws_toPort_ann n laws_toPort_code := loopsOk_all (cs := []) (by kernel_rfl) trivial
theorem laws_toPort_ok (n : Nat) : EntOk Try.prog (ents n) (laws_toPort_ent n) := by
  intro hs ar y hg h
  replace h : laws_toPort_D n ar = some y := h
  unfold laws_toPort_D at h
  replace h := ocons_some h
  obtain ⟨a0, r0, rfl, h⟩ := h
  replace h := onil_some h
  obtain ⟨rfl, h⟩ := h
  obtain ⟨a0, qh0, h⟩ := obind_some h
  rw [argV_eq ok qh0]
  exact call_of (phiE_nat _ _) hs ok mixed Try.func79 (c := laws_toPort_code) (by kernel_rfl) (laws_toPort_lo n) (by kernel_rfl) (by kernel_rfl) (by kernel_rfl) laws_toPort_de ((laws_toPort_tie n a0).trans h)
noncomputable def spec_l17Meet_code : Code := match Try.f212.body with | some c => c | none => .skip
def spec_l17Meet_ann : Ann := fun id => none
def spec_l17Meet_Ls (n : Nat) : Nat → Option (LSpec T) := fun id => none
theorem spec_l17Meet_tie (n : Nat) (a0 : SCall) (b1 : SCall) : evF (T := T) (Phi n 27) (spec_l17Meet_Ls n) spec_l17Meet_ann n Try.f212 (sg 212) [vA T 126 a0, vA T 126 b1] spec_l17Meet_dec = spec_l17Meet n a0 b1 := by kernel_rfl
theorem spec_l17Meet_lo (n : Nat) : LoopsOk (T := T) (Phi n 27) (spec_l17Meet_Ls n) spec_l17Meet_ann n spec_l17Meet_code := loopsOk_all (cs := []) (by kernel_rfl) trivial
theorem spec_l17Meet_ok (n : Nat) : EntOk Try.prog (ents n) (spec_l17Meet_ent n) := by
  intro hs ar y hg h
  replace h : spec_l17Meet_D n ar = some y := h
  unfold spec_l17Meet_D at h
  replace h := ocons_some h
  obtain ⟨a0, r0, rfl, h⟩ := h
  replace h := ocons_some h
  obtain ⟨a1, r1, rfl, h⟩ := h
  replace h := onil_some h
  obtain ⟨rfl, h⟩ := h
  obtain ⟨a0, qh0, h⟩ := obind_some h
  obtain ⟨b1, qh1, h⟩ := obind_some h
  rw [argV_eq ok qh0, argV_eq ok qh1]
  exact call_of (phiE_nat _ _) hs ok mixed Try.func212 (c := spec_l17Meet_code) (by kernel_rfl) (spec_l17Meet_lo n) (by kernel_rfl) (by kernel_rfl) (by kernel_rfl) spec_l17Meet_de ((spec_l17Meet_tie n a0 b1).trans h)
noncomputable def spec_l1In_code : Code := match Try.f174.body with | some c => c | none => .skip
def spec_l1In_ann : Ann := fun id => none
def spec_l1In_Ls (n : Nat) : Nat → Option (LSpec T) := fun id => none
theorem spec_l1In_tie (n : Nat) (x0 : Int) (a1 : Int) (b2 : Int) : evF (T := T) (Phi n 28) (spec_l1In_Ls n) spec_l1In_ann n Try.f174 (sg 174) [vA T 3 x0, vA T 3 a1, vA T 3 b2] spec_l1In_dec = spec_l1In n x0 a1 b2 := by kernel_rfl
theorem spec_l1In_lo (n : Nat) : LoopsOk (T := T) (Phi n 28) (spec_l1In_Ls n) spec_l1In_ann n spec_l1In_code := loopsOk_all (cs := []) (by kernel_rfl) trivial
theorem spec_l1In_ok (n : Nat) : EntOk Try.prog (ents n) (spec_l1In_ent n) := by
  intro hs ar y hg h
  replace h : spec_l1In_D n ar = some y := h
  unfold spec_l1In_D at h
  replace h := ocons_some h
  obtain ⟨a0, r0, rfl, h⟩ := h
  replace h := ocons_some h
  obtain ⟨a1, r1, rfl, h⟩ := h
  replace h := ocons_some h
  obtain ⟨a2, r2, rfl, h⟩ := h
  replace h := onil_some h
  obtain ⟨rfl, h⟩ := h
  obtain ⟨x0, qh0, h⟩ := obind_some h
  obtain ⟨a1, qh1, h⟩ := obind_some h
  obtain ⟨b2, qh2, h⟩ := obind_some h
  rw [argV_eq ok qh0, argV_eq ok qh1, argV_eq ok qh2]
  exact call_of (phiE_nat _ _) hs ok mixed Try.func174 (c := spec_l1In_code) (by kernel_rfl) (spec_l1In_lo n) (by kernel_rfl) (by kernel_rfl) (by kernel_rfl) spec_l1In_de ((spec_l1In_tie n x0 a1 b2).trans h)
noncomputable def spec_l1Minute_code : Code := match Try.f239.body with | some c => c | none => .skip
def spec_l1Minute_ann : Ann := fun id => none
def spec_l1Minute_Ls (n : Nat) : Nat → Option (LSpec T) := fun id => none
theorem spec_l1Minute_tie (n : Nat) (x0 : Int) : evF (T := T) (Phi n 29) (spec_l1Minute_Ls n) spec_l1Minute_ann n Try.f239 (sg 239) [vA T 3 x0] spec_l1Minute_dec = spec_l1Minute n x0 := by kernel_rfl
theorem spec_l1Minute_lo (n : Nat) : LoopsOk (T := T) (Phi n 29) (spec_l1Minute_Ls n) spec_l1Minute_ann n spec_l1Minute_code := loopsOk_all (cs := []) (by kernel_rfl) trivial
theorem spec_l1Minute_ok (n : Nat) : EntOk Try.prog (ents n) (spec_l1Minute_ent n) := by
  intro hs ar y hg h
  replace h : spec_l1Minute_D n ar = some y := h
  unfold spec_l1Minute_D at h
  replace h := ocons_some h
  obtain ⟨a0, r0, rfl, h⟩ := h
  replace h := onil_some h
  obtain ⟨rfl, h⟩ := h
  obtain ⟨x0, qh0, h⟩ := obind_some h
  rw [argV_eq ok qh0]
  exact call_of (phiE_nat _ _) hs ok mixed Try.func239 (c := spec_l1Minute_code) (by kernel_rfl) (spec_l1Minute_lo n) (by kernel_rfl) (by kernel_rfl) (by kernel_rfl) spec_l1Minute_de ((spec_l1Minute_tie n x0).trans h)
noncomputable def spec_CallsOk_code : Code := match Try.f213.body with | some c => c | none => .skip
def spec_CallsOk_4_sv : List Sv := [.one (.int .i64), .one (.arr 126), .one (.int .i64)]
def spec_CallsOk_4_so : List So := []
def spec_CallsOk_4_emb (c : Int × List SCall) (x : Int) : EVs T spec_CallsOk_4_sv × EOs T spec_CallsOk_4_so := ((c.1, c.2, x, ()), ())
def spec_CallsOk_4_prj (y : EVs T spec_CallsOk_4_sv × EOs T spec_CallsOk_4_so) : (Int × List SCall) × Int := ((y.1.1, y.1.2.1), (y.1.2.2.1))
def spec_CallsOk_4_b (n : Nat) {R : Type} (K : Ex → Sm.St T → Option R) (c : Int × List SCall) (x : Int) (J : Int → Option R) : Option R :=
  spec_CallsOk_L4 n (K (.exit 0) (stOf (T := T) [] [] [] [] () ())) (fun (y0 : Bool) => K .ret (stOf (T := T) [4] [] [.one (.bool)] [] (y0, ()) ())) J c.1 c.2 x
def spec_CallsOk_4_sp (n : Nat) : LSpec T := mkSpec T ⟨[], [0, 1, 5], []⟩ spec_CallsOk_4_sv spec_CallsOk_4_so (Int × List SCall) (Int) spec_CallsOk_4_emb spec_CallsOk_4_prj (spec_CallsOk_4_b n)
noncomputable def spec_CallsOk_4_c : Code := ((loopCodes spec_CallsOk_code)[0]?).getD .skip
def spec_CallsOk_ann : Ann := fun id => bif Nat.beq id 3000004 then some ⟨[], [], []⟩ else bif Nat.beq id 2000004 then some ⟨[], [4], []⟩ else none
def spec_CallsOk_Ls (n : Nat) : Nat → Option (LSpec T) := fun id => bif Nat.beq id 4 then some (spec_CallsOk_4_sp n) else none
theorem spec_CallsOk_4_le (n : Nat) : LoopEq (T := T) (Phi n 30) (spec_CallsOk_Ls n) spec_CallsOk_ann n spec_CallsOk_4_c (spec_CallsOk_4_sp n) := ⟨mkSpec_dec (fun y => rfl), fun c x => by kernel_rfl, fun K J c x => by kernel_rfl⟩
theorem spec_CallsOk_tie (n : Nat) (long0 : Int) (calls1 : List SCall) : evF (T := T) (Phi n 30) (spec_CallsOk_Ls n) spec_CallsOk_ann n Try.f213 (sg 213) [vA T 3 long0, vA T 119 calls1] spec_CallsOk_dec = spec_CallsOk n long0 calls1 := by kernel_rfl
theorem spec_CallsOk_lo (n : Nat) : LoopsOk (T := T) (Phi n 30) (spec_CallsOk_Ls n) spec_CallsOk_ann n spec_CallsOk_code := loopsOk_all (cs := [spec_CallsOk_4_c]) (by kernel_rfl) ⟨⟨_, by kernel_rfl, spec_CallsOk_4_le n⟩, trivial⟩
theorem spec_CallsOk_ok (n : Nat) : EntOk Try.prog (ents n) (spec_CallsOk_ent n) := by
  intro hs ar y hg h
  replace h : spec_CallsOk_D n ar = some y := h
  unfold spec_CallsOk_D at h
  replace h := ocons_some h
  obtain ⟨a0, r0, rfl, h⟩ := h
  replace h := ocons_some h
  obtain ⟨a1, r1, rfl, h⟩ := h
  replace h := onil_some h
  obtain ⟨rfl, h⟩ := h
  obtain ⟨long0, qh0, h⟩ := obind_some h
  obtain ⟨calls1, qh1, h⟩ := obind_some h
  rw [argV_eq ok qh0, argV_eq ok qh1]
  exact call_of (phiE_nat _ _) hs ok mixed Try.func213 (c := spec_CallsOk_code) (by kernel_rfl) (spec_CallsOk_lo n) (by kernel_rfl) (by kernel_rfl) (by kernel_rfl) spec_CallsOk_de ((spec_CallsOk_tie n long0 calls1).trans h)
noncomputable def spec_Clear17_code : Code := match Try.f168.body with | some c => c | none => .skip
def spec_Clear17_2_sv : List Sv := [.one (.int .i64), .one (.arr 126), .one (.int .i64)]
def spec_Clear17_2_so : List So := []
def spec_Clear17_2_emb (c : Int × List SCall) (x : Int) : EVs T spec_Clear17_2_sv × EOs T spec_Clear17_2_so := ((c.1, c.2, x, ()), ())
def spec_Clear17_2_prj (y : EVs T spec_Clear17_2_sv × EOs T spec_Clear17_2_so) : (Int × List SCall) × Int := ((y.1.1, y.1.2.1), (y.1.2.2.1))
def spec_Clear17_2_b (n : Nat) {R : Type} (K : Ex → Sm.St T → Option R) (c : Int × List SCall) (x : Int) (J : Int → Option R) : Option R :=
  spec_Clear17_L2 n (K (.exit 0) (stOf (T := T) [0, 1] [] [.one (.int .i64), .one (.arr 126)] [] (c.1, c.2, ()) ())) (fun (y0 : Bool) => K .ret (stOf (T := T) [4] [] [.one (.bool)] [] (y0, ()) ())) J c.1 c.2 x
def spec_Clear17_2_sp (n : Nat) : LSpec T := mkSpec T ⟨[], [0, 1, 5], []⟩ spec_Clear17_2_sv spec_Clear17_2_so (Int × List SCall) (Int) spec_Clear17_2_emb spec_Clear17_2_prj (spec_Clear17_2_b n)
noncomputable def spec_Clear17_2_c : Code := ((loopCodes spec_Clear17_code)[0]?).getD .skip
def spec_Clear17_5_sv : List Sv := [.one (.int .i64), .one (.arr 126), .one (.int .i64), .one (.int .i64)]
def spec_Clear17_5_so : List So := []
def spec_Clear17_5_emb (c : Int × List SCall × Int) (x : Int) : EVs T spec_Clear17_5_sv × EOs T spec_Clear17_5_so := ((c.1, c.2.1, c.2.2, x, ()), ())
def spec_Clear17_5_prj (y : EVs T spec_Clear17_5_sv × EOs T spec_Clear17_5_so) : (Int × List SCall × Int) × Int := ((y.1.1, y.1.2.1, y.1.2.2.1), (y.1.2.2.2.1))
def spec_Clear17_5_b (n : Nat) {R : Type} (K : Ex → Sm.St T → Option R) (c : Int × List SCall × Int) (x : Int) (J : Int → Option R) : Option R :=
  spec_Clear17_L5 n (K (.exit 2) (stOf (T := T) [0, 1, 5] [] [.one (.int .i64), .one (.arr 126), .one (.int .i64)] [] (c.1, c.2.1, c.2.2, ()) ())) (fun (y0 : Bool) => K .ret (stOf (T := T) [4] [] [.one (.bool)] [] (y0, ()) ())) J c.1 c.2.1 c.2.2 x
def spec_Clear17_5_sp (n : Nat) : LSpec T := mkSpec T ⟨[], [0, 1, 5, 6], []⟩ spec_Clear17_5_sv spec_Clear17_5_so (Int × List SCall × Int) (Int) spec_Clear17_5_emb spec_Clear17_5_prj (spec_Clear17_5_b n)
noncomputable def spec_Clear17_5_c : Code := ((loopCodes spec_Clear17_code)[1]?).getD .skip
def spec_Clear17_ann : Ann := fun id => bif Nat.beq id 3000002 then some ⟨[], [0, 1], []⟩ else bif Nat.beq id 2000002 then some ⟨[], [4], []⟩ else bif Nat.beq id 5000005 then some ⟨[], [0, 1, 5], []⟩ else bif Nat.beq id 2000005 then some ⟨[], [4], []⟩ else none
def spec_Clear17_Ls (n : Nat) : Nat → Option (LSpec T) := fun id => bif Nat.beq id 2 then some (spec_Clear17_2_sp n) else bif Nat.beq id 5 then some (spec_Clear17_5_sp n) else none
theorem spec_Clear17_2_le (n : Nat) : LoopEq (T := T) (Phi n 31) (spec_Clear17_Ls n) spec_Clear17_ann n spec_Clear17_2_c (spec_Clear17_2_sp n) := ⟨mkSpec_dec (fun y => rfl), fun c x => by kernel_rfl, fun K J c x => by kernel_rfl⟩
theorem spec_Clear17_5_le (n : Nat) : LoopEq (T := T) (Phi n 31) (spec_Clear17_Ls n) spec_Clear17_ann n spec_Clear17_5_c (spec_Clear17_5_sp n) := ⟨mkSpec_dec (fun y => rfl), fun c x => by kernel_rfl, fun K J c x => by kernel_rfl⟩
theorem spec_Clear17_tie (n : Nat) (long0 : Int) (calls1 : List SCall) : evF (T := T) (Phi n 31) (spec_Clear17_Ls n) spec_Clear17_ann n Try.f168 (sg 168) [vA T 3 long0, vA T 119 calls1] spec_Clear17_dec = spec_Clear17 n long0 calls1 := by kernel_rfl
theorem spec_Clear17_lo (n : Nat) : LoopsOk (T := T) (Phi n 31) (spec_Clear17_Ls n) spec_Clear17_ann n spec_Clear17_code := loopsOk_all (cs := [spec_Clear17_2_c, spec_Clear17_5_c]) (by kernel_rfl) ⟨⟨_, by kernel_rfl, spec_Clear17_2_le n⟩, ⟨_, by kernel_rfl, spec_Clear17_5_le n⟩, trivial⟩
theorem spec_Clear17_ok (n : Nat) : EntOk Try.prog (ents n) (spec_Clear17_ent n) := by
  intro hs ar y hg h
  replace h : spec_Clear17_D n ar = some y := h
  unfold spec_Clear17_D at h
  replace h := ocons_some h
  obtain ⟨a0, r0, rfl, h⟩ := h
  replace h := ocons_some h
  obtain ⟨a1, r1, rfl, h⟩ := h
  replace h := onil_some h
  obtain ⟨rfl, h⟩ := h
  obtain ⟨long0, qh0, h⟩ := obind_some h
  obtain ⟨calls1, qh1, h⟩ := obind_some h
  rw [argV_eq ok qh0, argV_eq ok qh1]
  exact call_of (phiE_nat _ _) hs ok mixed Try.func168 (c := spec_Clear17_code) (by kernel_rfl) (spec_Clear17_lo n) (by kernel_rfl) (by kernel_rfl) (by kernel_rfl) spec_Clear17_de ((spec_Clear17_tie n long0 calls1).trans h)
noncomputable def spec_l18Count_code : Code := match Try.f181.body with | some c => c | none => .skip
def spec_l18Count_3_sv : List Sv := [.one (.int .i64), .one (.ptr 16 0 0), .one (.int .i64), .one (.int .i64)]
def spec_l18Count_3_so : List So := [.var [.int .i64, .arr 23]]
def spec_l18Count_3_emb (c : Int × SYard) (x : Int × Int) : EVs T spec_l18Count_3_sv × EOs T spec_l18Count_3_so := ((c.1, (), x.1, x.2, ()), ((c.2.High, c.2.Stacks, ()), ()))
def spec_l18Count_3_prj (y : EVs T spec_l18Count_3_sv × EOs T spec_l18Count_3_so) : (Int × SYard) × (Int × Int) := ((y.1.1, ((⟨y.2.1.1, y.2.1.2.1⟩ : SYard) : SYard)), (y.1.2.2.1, y.1.2.2.2.1))
def spec_l18Count_3_b (n : Nat) {R : Type} (K : Ex → Sm.St T → Option R) (c : Int × SYard) (x : Int × Int) (J : (Int × Int) → Option R) : Option R :=
  spec_l18Count_L3 n (fun (y0 : Int) => K (.exit 0) (stOf (T := T) [5] [] [.one (.int .i64)] [] (y0, ()) ())) (fun z0 z1 => J (z0, z1)) c.1 x.1 x.2 c.2
def spec_l18Count_3_sp (n : Nat) : LSpec T := mkSpec T ⟨[], [1, 2, 5, 6], [16]⟩ spec_l18Count_3_sv spec_l18Count_3_so (Int × SYard) (Int × Int) spec_l18Count_3_emb spec_l18Count_3_prj (spec_l18Count_3_b n)
noncomputable def spec_l18Count_3_c : Code := ((loopCodes spec_l18Count_code)[0]?).getD .skip
def spec_l18Count_6_sv : List Sv := [.one (.int .i64), .one (.ptr 16 0 0), .one (.int .i64), .one (.int .i64), .one (.int .i64)]
def spec_l18Count_6_so : List So := [.var [.int .i64, .arr 23]]
def spec_l18Count_6_emb (c : Int × Int × SYard) (x : Int × Int) : EVs T spec_l18Count_6_sv × EOs T spec_l18Count_6_so := ((c.1, (), x.1, c.2.1, x.2, ()), ((c.2.2.High, c.2.2.Stacks, ()), ()))
def spec_l18Count_6_prj (y : EVs T spec_l18Count_6_sv × EOs T spec_l18Count_6_so) : (Int × Int × SYard) × (Int × Int) := ((y.1.1, y.1.2.2.2.1, ((⟨y.2.1.1, y.2.1.2.1⟩ : SYard) : SYard)), (y.1.2.2.1, y.1.2.2.2.2.1))
def spec_l18Count_6_b (n : Nat) {R : Type} (K : Ex → Sm.St T → Option R) (c : Int × Int × SYard) (x : Int × Int) (J : (Int × Int) → Option R) : Option R :=
  spec_l18Count_L6 n (fun (y1 : Int) => K (.exit 2) (stOf (T := T) [1, 2, 5, 6] [16] [.one (.int .i64), .one (.ptr 16 0 0), .one (.int .i64), .one (.int .i64)] [.var [.int .i64, .arr 23]] (c.1, (), y1, c.2.1, ()) ((c.2.2.High, c.2.2.Stacks, ()), ()))) (fun z0 z1 => J (z0, z1)) c.1 x.1 c.2.1 x.2 c.2.2
def spec_l18Count_6_sp (n : Nat) : LSpec T := mkSpec T ⟨[], [1, 2, 5, 6, 7], [16]⟩ spec_l18Count_6_sv spec_l18Count_6_so (Int × Int × SYard) (Int × Int) spec_l18Count_6_emb spec_l18Count_6_prj (spec_l18Count_6_b n)
noncomputable def spec_l18Count_6_c : Code := ((loopCodes spec_l18Count_code)[1]?).getD .skip
def spec_l18Count_ann : Ann := fun id => bif Nat.beq id 3000003 then some ⟨[], [5], []⟩ else bif Nat.beq id 5000006 then some ⟨[], [1, 2, 5, 6], [16]⟩ else none
def spec_l18Count_Ls (n : Nat) : Nat → Option (LSpec T) := fun id => bif Nat.beq id 3 then some (spec_l18Count_3_sp n) else bif Nat.beq id 6 then some (spec_l18Count_6_sp n) else none
theorem spec_l18Count_3_le (n : Nat) : LoopEq (T := T) (Phi n 32) (spec_l18Count_Ls n) spec_l18Count_ann n spec_l18Count_3_c (spec_l18Count_3_sp n) := ⟨mkSpec_dec (fun y => rfl), fun c x => by kernel_rfl, fun K J c x => by kernel_rfl⟩
theorem spec_l18Count_6_le (n : Nat) : LoopEq (T := T) (Phi n 32) (spec_l18Count_Ls n) spec_l18Count_ann n spec_l18Count_6_c (spec_l18Count_6_sp n) := ⟨mkSpec_dec (fun y => rfl), fun c x => by kernel_rfl, fun K J c x => by kernel_rfl⟩
theorem spec_l18Count_tie (n : Nat) (y0 : SYard) (box1 : Int) : evF (T := T) (Phi n 32) (spec_l18Count_Ls n) spec_l18Count_ann n Try.f181 (sg 181) [vA T 41 y0, vA T 3 box1] spec_l18Count_dec = spec_l18Count n y0 box1 := by kernel_rfl
theorem spec_l18Count_lo (n : Nat) : LoopsOk (T := T) (Phi n 32) (spec_l18Count_Ls n) spec_l18Count_ann n spec_l18Count_code := loopsOk_all (cs := [spec_l18Count_3_c, spec_l18Count_6_c]) (by kernel_rfl) ⟨⟨_, by kernel_rfl, spec_l18Count_3_le n⟩, ⟨_, by kernel_rfl, spec_l18Count_6_le n⟩, trivial⟩
theorem spec_l18Count_ok (n : Nat) : EntOk Try.prog (ents n) (spec_l18Count_ent n) := by
  intro hs ar y hg h
  replace h : spec_l18Count_D n ar = some y := h
  unfold spec_l18Count_D at h
  replace h := ocons_some h
  obtain ⟨a0, r0, rfl, h⟩ := h
  replace h := ocons_some h
  obtain ⟨a1, r1, rfl, h⟩ := h
  replace h := onil_some h
  obtain ⟨rfl, h⟩ := h
  obtain ⟨y0, qh0, h⟩ := obind_some h
  obtain ⟨box1, qh1, h⟩ := obind_some h
  rw [argV_eq ok qh0, argV_eq ok qh1]
  exact call_of (phiE_nat _ _) hs ok mixed Try.func181 (c := spec_l18Count_code) (by kernel_rfl) (spec_l18Count_lo n) (by kernel_rfl) (by kernel_rfl) (by kernel_rfl) spec_l18Count_de ((spec_l18Count_tie n y0 box1).trans h)
noncomputable def spec_YardOk_code : Code := match Try.f94.body with | some c => c | none => .skip
def spec_YardOk_4_sv : List Sv := [.one (.ptr 8 0 0), .one (.int .i64)]
def spec_YardOk_4_so : List So := [.var [.int .i64, .arr 23]]
def spec_YardOk_4_emb (c : SYard) (x : Int) : EVs T spec_YardOk_4_sv × EOs T spec_YardOk_4_so := (((), x, ()), ((c.High, c.Stacks, ()), ()))
def spec_YardOk_4_prj (y : EVs T spec_YardOk_4_sv × EOs T spec_YardOk_4_so) : SYard × Int := ((((⟨y.2.1.1, y.2.1.2.1⟩ : SYard) : SYard)), (y.1.2.1))
def spec_YardOk_4_b (n : Nat) {R : Type} (K : Ex → Sm.St T → Option R) (c : SYard) (x : Int) (J : Int → Option R) : Option R :=
  spec_YardOk_L4 n (K (.exit 0) (stOf (T := T) [1] [8] [.one (.ptr 8 0 0)] [.var [.int .i64, .arr 23]] ((), ()) ((c.High, c.Stacks, ()), ()))) (fun (y0 : Bool) => K .ret (stOf (T := T) [2] [] [.one (.bool)] [] (y0, ()) ())) J x c
def spec_YardOk_4_sp (n : Nat) : LSpec T := mkSpec T ⟨[], [1, 3], [8]⟩ spec_YardOk_4_sv spec_YardOk_4_so (SYard) (Int) spec_YardOk_4_emb spec_YardOk_4_prj (spec_YardOk_4_b n)
noncomputable def spec_YardOk_4_c : Code := ((loopCodes spec_YardOk_code)[0]?).getD .skip
def spec_YardOk_9_sv : List Sv := [.one (.ptr 8 0 0), .one (.int .i64)]
def spec_YardOk_9_so : List So := [.var [.int .i64, .arr 23]]
def spec_YardOk_9_emb (c : SYard) (x : Int) : EVs T spec_YardOk_9_sv × EOs T spec_YardOk_9_so := (((), x, ()), ((c.High, c.Stacks, ()), ()))
def spec_YardOk_9_prj (y : EVs T spec_YardOk_9_sv × EOs T spec_YardOk_9_so) : SYard × Int := ((((⟨y.2.1.1, y.2.1.2.1⟩ : SYard) : SYard)), (y.1.2.1))
def spec_YardOk_9_b (n : Nat) {R : Type} (K : Ex → Sm.St T → Option R) (c : SYard) (x : Int) (J : Int → Option R) : Option R :=
  spec_YardOk_L9 n (K (.exit 2) (stOf (T := T) [] [] [] [] () ())) (fun (y0 : Bool) => K .ret (stOf (T := T) [2] [] [.one (.bool)] [] (y0, ()) ())) J x c
def spec_YardOk_9_sp (n : Nat) : LSpec T := mkSpec T ⟨[], [1, 4], [8]⟩ spec_YardOk_9_sv spec_YardOk_9_so (SYard) (Int) spec_YardOk_9_emb spec_YardOk_9_prj (spec_YardOk_9_b n)
noncomputable def spec_YardOk_9_c : Code := ((loopCodes spec_YardOk_code)[1]?).getD .skip
def spec_YardOk_12_sv : List Sv := [.one (.ptr 8 0 0), .one (.int .i64), .one (.int .i64)]
def spec_YardOk_12_so : List So := [.var [.int .i64, .arr 23]]
def spec_YardOk_12_emb (c : Int × SYard) (x : Int) : EVs T spec_YardOk_12_sv × EOs T spec_YardOk_12_so := (((), c.1, x, ()), ((c.2.High, c.2.Stacks, ()), ()))
def spec_YardOk_12_prj (y : EVs T spec_YardOk_12_sv × EOs T spec_YardOk_12_so) : (Int × SYard) × Int := ((y.1.2.1, ((⟨y.2.1.1, y.2.1.2.1⟩ : SYard) : SYard)), (y.1.2.2.1))
def spec_YardOk_12_b (n : Nat) {R : Type} (K : Ex → Sm.St T → Option R) (c : Int × SYard) (x : Int) (J : Int → Option R) : Option R :=
  spec_YardOk_L12 n (K (.exit 4) (stOf (T := T) [1, 4] [8] [.one (.ptr 8 0 0), .one (.int .i64)] [.var [.int .i64, .arr 23]] ((), c.1, ()) ((c.2.High, c.2.Stacks, ()), ()))) (fun (y0 : Bool) => K .ret (stOf (T := T) [2] [] [.one (.bool)] [] (y0, ()) ())) J c.1 x c.2
def spec_YardOk_12_sp (n : Nat) : LSpec T := mkSpec T ⟨[], [1, 4, 5], [8]⟩ spec_YardOk_12_sv spec_YardOk_12_so (Int × SYard) (Int) spec_YardOk_12_emb spec_YardOk_12_prj (spec_YardOk_12_b n)
noncomputable def spec_YardOk_12_c : Code := ((loopCodes spec_YardOk_code)[2]?).getD .skip
def spec_YardOk_ann : Ann := fun id => bif Nat.beq id 3000004 then some ⟨[], [1], [8]⟩ else bif Nat.beq id 2000004 then some ⟨[], [2], []⟩ else bif Nat.beq id 5000009 then some ⟨[], [], []⟩ else bif Nat.beq id 2000009 then some ⟨[], [2], []⟩ else bif Nat.beq id 7000012 then some ⟨[], [1, 4], [8]⟩ else bif Nat.beq id 2000012 then some ⟨[], [2], []⟩ else none
def spec_YardOk_Ls (n : Nat) : Nat → Option (LSpec T) := fun id => bif Nat.beq id 4 then some (spec_YardOk_4_sp n) else bif Nat.beq id 9 then some (spec_YardOk_9_sp n) else bif Nat.beq id 12 then some (spec_YardOk_12_sp n) else none
theorem spec_YardOk_4_le (n : Nat) : LoopEq (T := T) (Phi n 33) (spec_YardOk_Ls n) spec_YardOk_ann n spec_YardOk_4_c (spec_YardOk_4_sp n) := ⟨mkSpec_dec (fun y => rfl), fun c x => by kernel_rfl, fun K J c x => by kernel_rfl⟩
theorem spec_YardOk_9_le (n : Nat) : LoopEq (T := T) (Phi n 33) (spec_YardOk_Ls n) spec_YardOk_ann n spec_YardOk_9_c (spec_YardOk_9_sp n) := ⟨mkSpec_dec (fun y => rfl), fun c x => by kernel_rfl, fun K J c x => by kernel_rfl⟩
theorem spec_YardOk_12_le (n : Nat) : LoopEq (T := T) (Phi n 33) (spec_YardOk_Ls n) spec_YardOk_ann n spec_YardOk_12_c (spec_YardOk_12_sp n) := ⟨mkSpec_dec (fun y => rfl), fun c x => by kernel_rfl, fun K J c x => by kernel_rfl⟩
theorem spec_YardOk_tie (n : Nat) (y0 : SYard) : evF (T := T) (Phi n 33) (spec_YardOk_Ls n) spec_YardOk_ann n Try.f94 (sg 94) [vA T 41 y0] spec_YardOk_dec = spec_YardOk n y0 := by kernel_rfl
theorem spec_YardOk_lo (n : Nat) : LoopsOk (T := T) (Phi n 33) (spec_YardOk_Ls n) spec_YardOk_ann n spec_YardOk_code := loopsOk_all (cs := [spec_YardOk_4_c, spec_YardOk_9_c, spec_YardOk_12_c]) (by kernel_rfl) ⟨⟨_, by kernel_rfl, spec_YardOk_4_le n⟩, ⟨_, by kernel_rfl, spec_YardOk_9_le n⟩, ⟨_, by kernel_rfl, spec_YardOk_12_le n⟩, trivial⟩
theorem spec_YardOk_ok (n : Nat) : EntOk Try.prog (ents n) (spec_YardOk_ent n) := by
  intro hs ar y hg h
  replace h : spec_YardOk_D n ar = some y := h
  unfold spec_YardOk_D at h
  replace h := ocons_some h
  obtain ⟨a0, r0, rfl, h⟩ := h
  replace h := onil_some h
  obtain ⟨rfl, h⟩ := h
  obtain ⟨y0, qh0, h⟩ := obind_some h
  rw [argV_eq ok qh0]
  exact call_of (phiE_nat _ _) hs ok mixed Try.func94 (c := spec_YardOk_code) (by kernel_rfl) (spec_YardOk_lo n) (by kernel_rfl) (by kernel_rfl) (by kernel_rfl) spec_YardOk_de ((spec_YardOk_tie n y0).trans h)
noncomputable def spec_l1Name_code : Code := match Try.f175.body with | some c => c | none => .skip
def spec_l1Name_2_sv : List Sv := [.one (.str), .one (.int .i64)]
def spec_l1Name_2_so : List So := []
def spec_l1Name_2_emb (c : ByteArray) (x : Int) : EVs T spec_l1Name_2_sv × EOs T spec_l1Name_2_so := ((c, x, ()), ())
def spec_l1Name_2_prj (y : EVs T spec_l1Name_2_sv × EOs T spec_l1Name_2_so) : ByteArray × Int := ((y.1.1), (y.1.2.1))
def spec_l1Name_2_b (n : Nat) {R : Type} (K : Ex → Sm.St T → Option R) (c : ByteArray) (x : Int) (J : Int → Option R) : Option R :=
  spec_l1Name_L2 n (K (.exit 0) (stOf (T := T) [0] [] [.one (.str)] [] (c, ()) ())) (fun (y0 : Bool) => K .ret (stOf (T := T) [2] [] [.one (.bool)] [] (y0, ()) ())) J c x
def spec_l1Name_2_sp (n : Nat) : LSpec T := mkSpec T ⟨[], [0, 3], []⟩ spec_l1Name_2_sv spec_l1Name_2_so (ByteArray) (Int) spec_l1Name_2_emb spec_l1Name_2_prj (spec_l1Name_2_b n)
noncomputable def spec_l1Name_2_c : Code := ((loopCodes spec_l1Name_code)[0]?).getD .skip
def spec_l1Name_ann : Ann := fun id => bif Nat.beq id 3000002 then some ⟨[], [0], []⟩ else bif Nat.beq id 2000002 then some ⟨[], [2], []⟩ else none
def spec_l1Name_Ls (n : Nat) : Nat → Option (LSpec T) := fun id => bif Nat.beq id 2 then some (spec_l1Name_2_sp n) else none
theorem spec_l1Name_2_le (n : Nat) : LoopEq (T := T) (Phi n 34) (spec_l1Name_Ls n) spec_l1Name_ann n spec_l1Name_2_c (spec_l1Name_2_sp n) := ⟨mkSpec_dec (fun y => rfl), fun c x => by kernel_rfl, fun K J c x => by kernel_rfl⟩
theorem spec_l1Name_tie (n : Nat) (s0 : ByteArray) : evF (T := T) (Phi n 34) (spec_l1Name_Ls n) spec_l1Name_ann n Try.f175 (sg 175) [vA T 9 s0] spec_l1Name_dec = spec_l1Name n s0 := by kernel_rfl
theorem spec_l1Name_lo (n : Nat) : LoopsOk (T := T) (Phi n 34) (spec_l1Name_Ls n) spec_l1Name_ann n spec_l1Name_code := loopsOk_all (cs := [spec_l1Name_2_c]) (by kernel_rfl) ⟨⟨_, by kernel_rfl, spec_l1Name_2_le n⟩, trivial⟩
theorem spec_l1Name_ok (n : Nat) : EntOk Try.prog (ents n) (spec_l1Name_ent n) := by
  intro hs ar y hg h
  replace h : spec_l1Name_D n ar = some y := h
  unfold spec_l1Name_D at h
  replace h := ocons_some h
  obtain ⟨a0, r0, rfl, h⟩ := h
  replace h := onil_some h
  obtain ⟨rfl, h⟩ := h
  obtain ⟨s0, qh0, h⟩ := obind_some h
  rw [argV_eq ok qh0]
  exact call_of (phiE_nat _ _) hs ok mixed Try.func175 (c := spec_l1Name_code) (by kernel_rfl) (spec_l1Name_lo n) (by kernel_rfl) (by kernel_rfl) (by kernel_rfl) spec_l1Name_de ((spec_l1Name_tie n s0).trans h)
noncomputable def spec_l14Find_code : Code := match Try.f84.body with | some c => c | none => .skip
def spec_l14Find_2_sv : List Sv := [.one (.int .i64), .one (.ptr 16 0 0), .one (.int .i64)]
def spec_l14Find_2_so : List So := [.var [.arr 79, .arr 3]]
def spec_l14Find_2_emb (c : Int × SBook) (x : Int) : EVs T spec_l14Find_2_sv × EOs T spec_l14Find_2_so := ((c.1, (), x, ()), ((c.2.Bills, c.2.Freed, ()), ()))
def spec_l14Find_2_prj (y : EVs T spec_l14Find_2_sv × EOs T spec_l14Find_2_so) : (Int × SBook) × Int := ((y.1.1, ((⟨y.2.1.1, y.2.1.2.1⟩ : SBook) : SBook)), (y.1.2.2.1))
def spec_l14Find_2_b (n : Nat) {R : Type} (K : Ex → Sm.St T → Option R) (c : Int × SBook) (x : Int) (J : Int → Option R) : Option R :=
  spec_l14Find_L2 n (K (.exit 0) (stOf (T := T) [] [] [] [] () ())) (fun (y0 : Int) => K .ret (stOf (T := T) [4] [] [.one (.int .i64)] [] (y0, ()) ())) J c.1 x c.2
def spec_l14Find_2_sp (n : Nat) : LSpec T := mkSpec T ⟨[], [1, 2, 5], [16]⟩ spec_l14Find_2_sv spec_l14Find_2_so (Int × SBook) (Int) spec_l14Find_2_emb spec_l14Find_2_prj (spec_l14Find_2_b n)
noncomputable def spec_l14Find_2_c : Code := ((loopCodes spec_l14Find_code)[0]?).getD .skip
def spec_l14Find_ann : Ann := fun id => bif Nat.beq id 3000002 then some ⟨[], [], []⟩ else bif Nat.beq id 2000002 then some ⟨[], [4], []⟩ else none
def spec_l14Find_Ls (n : Nat) : Nat → Option (LSpec T) := fun id => bif Nat.beq id 2 then some (spec_l14Find_2_sp n) else none
theorem spec_l14Find_2_le (n : Nat) : LoopEq (T := T) (Phi n 35) (spec_l14Find_Ls n) spec_l14Find_ann n spec_l14Find_2_c (spec_l14Find_2_sp n) := ⟨mkSpec_dec (fun y => rfl), fun c x => by kernel_rfl, fun K J c x => by kernel_rfl⟩
theorem spec_l14Find_tie (n : Nat) (b0 : SBook) (id1 : Int) : evF (T := T) (Phi n 35) (spec_l14Find_Ls n) spec_l14Find_ann n Try.f84 (sg 84) [vA T 31 b0, vA T 3 id1] spec_l14Find_dec = spec_l14Find n b0 id1 := by kernel_rfl
theorem spec_l14Find_lo (n : Nat) : LoopsOk (T := T) (Phi n 35) (spec_l14Find_Ls n) spec_l14Find_ann n spec_l14Find_code := loopsOk_all (cs := [spec_l14Find_2_c]) (by kernel_rfl) ⟨⟨_, by kernel_rfl, spec_l14Find_2_le n⟩, trivial⟩
theorem spec_l14Find_ok (n : Nat) : EntOk Try.prog (ents n) (spec_l14Find_ent n) := by
  intro hs ar y hg h
  replace h : spec_l14Find_D n ar = some y := h
  unfold spec_l14Find_D at h
  replace h := ocons_some h
  obtain ⟨a0, r0, rfl, h⟩ := h
  replace h := ocons_some h
  obtain ⟨a1, r1, rfl, h⟩ := h
  replace h := onil_some h
  obtain ⟨rfl, h⟩ := h
  obtain ⟨b0, qh0, h⟩ := obind_some h
  obtain ⟨id1, qh1, h⟩ := obind_some h
  rw [argV_eq ok qh0, argV_eq ok qh1]
  exact call_of (phiE_nat _ _) hs ok mixed Try.func84 (c := spec_l14Find_code) (by kernel_rfl) (spec_l14Find_lo n) (by kernel_rfl) (by kernel_rfl) (by kernel_rfl) spec_l14Find_de ((spec_l14Find_tie n b0 id1).trans h)
noncomputable def spec_BookOk_code : Code := match Try.f85.body with | some c => c | none => .skip
def spec_BookOk_2_sv : List Sv := [.one (.ptr 8 0 0), .one (.int .i64)]
def spec_BookOk_2_so : List So := [.var [.arr 79, .arr 3]]
def spec_BookOk_2_emb (c : SBook) (x : Int) : EVs T spec_BookOk_2_sv × EOs T spec_BookOk_2_so := (((), x, ()), ((c.Bills, c.Freed, ()), ()))
def spec_BookOk_2_prj (y : EVs T spec_BookOk_2_sv × EOs T spec_BookOk_2_so) : SBook × Int := ((((⟨y.2.1.1, y.2.1.2.1⟩ : SBook) : SBook)), (y.1.2.1))
def spec_BookOk_2_b (n : Nat) {R : Type} (K : Ex → Sm.St T → Option R) (c : SBook) (x : Int) (J : Int → Option R) : Option R :=
  spec_BookOk_L2 n (K (.exit 0) (stOf (T := T) [1] [8] [.one (.ptr 8 0 0)] [.var [.arr 79, .arr 3]] ((), ()) ((c.Bills, c.Freed, ()), ()))) (fun (y0 : Bool) => K .ret (stOf (T := T) [2] [] [.one (.bool)] [] (y0, ()) ())) J x c
def spec_BookOk_2_sp (n : Nat) : LSpec T := mkSpec T ⟨[], [1, 3], [8]⟩ spec_BookOk_2_sv spec_BookOk_2_so (SBook) (Int) spec_BookOk_2_emb spec_BookOk_2_prj (spec_BookOk_2_b n)
noncomputable def spec_BookOk_2_c : Code := ((loopCodes spec_BookOk_code)[0]?).getD .skip
def spec_BookOk_8_sv : List Sv := [.one (.ptr 8 0 0), .one (.int .i64), .one (.ptr 32 0 0), .one (.int .i64)]
def spec_BookOk_8_so : List So := [.var [.arr 79, .arr 3], .var [.int .i64, .str, .str, .int .i64, .arr 9]]
def spec_BookOk_8_emb (c : Int × SBook × SBill) (x : Int) : EVs T spec_BookOk_8_sv × EOs T spec_BookOk_8_so := (((), c.1, (), x, ()), ((c.2.1.Bills, c.2.1.Freed, ()), (c.2.2.Id, c.2.2.Shipper, c.2.2.Order, c.2.2.Many, c.2.2.Held, ()), ()))
def spec_BookOk_8_prj (y : EVs T spec_BookOk_8_sv × EOs T spec_BookOk_8_so) : (Int × SBook × SBill) × Int := ((y.1.2.1, ((⟨y.2.1.1, y.2.1.2.1⟩ : SBook) : SBook), ((⟨y.2.2.1.1, y.2.2.1.2.1, y.2.2.1.2.2.1, y.2.2.1.2.2.2.1, y.2.2.1.2.2.2.2.1⟩ : SBill) : SBill)), (y.1.2.2.2.1))
def spec_BookOk_8_b (n : Nat) {R : Type} (K : Ex → Sm.St T → Option R) (c : Int × SBook × SBill) (x : Int) (J : Int → Option R) : Option R :=
  spec_BookOk_L8 n (K (.exit 2) (stOf (T := T) [1, 3] [8] [.one (.ptr 8 0 0), .one (.int .i64)] [.var [.arr 79, .arr 3]] ((), c.1, ()) ((c.2.1.Bills, c.2.1.Freed, ()), ()))) (fun (y0 : Bool) => K .ret (stOf (T := T) [2] [] [.one (.bool)] [] (y0, ()) ())) J c.1 x c.2.1 c.2.2
def spec_BookOk_8_sp (n : Nat) : LSpec T := mkSpec T ⟨[], [1, 3, 4, 5], [8, 32]⟩ spec_BookOk_8_sv spec_BookOk_8_so (Int × SBook × SBill) (Int) spec_BookOk_8_emb spec_BookOk_8_prj (spec_BookOk_8_b n)
noncomputable def spec_BookOk_8_c : Code := ((loopCodes spec_BookOk_code)[1]?).getD .skip
def spec_BookOk_13_sv : List Sv := [.one (.ptr 8 0 0), .one (.int .i64)]
def spec_BookOk_13_so : List So := [.var [.arr 79, .arr 3]]
def spec_BookOk_13_emb (c : SBook) (x : Int) : EVs T spec_BookOk_13_sv × EOs T spec_BookOk_13_so := (((), x, ()), ((c.Bills, c.Freed, ()), ()))
def spec_BookOk_13_prj (y : EVs T spec_BookOk_13_sv × EOs T spec_BookOk_13_so) : SBook × Int := ((((⟨y.2.1.1, y.2.1.2.1⟩ : SBook) : SBook)), (y.1.2.1))
def spec_BookOk_13_b (n : Nat) {R : Type} (K : Ex → Sm.St T → Option R) (c : SBook) (x : Int) (J : Int → Option R) : Option R :=
  spec_BookOk_L13 n (K (.exit 4) (stOf (T := T) [1] [8] [.one (.ptr 8 0 0)] [.var [.arr 79, .arr 3]] ((), ()) ((c.Bills, c.Freed, ()), ()))) (fun (y0 : Bool) => K .ret (stOf (T := T) [2] [] [.one (.bool)] [] (y0, ()) ())) J x c
def spec_BookOk_13_sp (n : Nat) : LSpec T := mkSpec T ⟨[], [1, 6], [8]⟩ spec_BookOk_13_sv spec_BookOk_13_so (SBook) (Int) spec_BookOk_13_emb spec_BookOk_13_prj (spec_BookOk_13_b n)
noncomputable def spec_BookOk_13_c : Code := ((loopCodes spec_BookOk_code)[2]?).getD .skip
def spec_BookOk_ann : Ann := fun id => bif Nat.beq id 3000002 then some ⟨[], [1], [8]⟩ else bif Nat.beq id 2000002 then some ⟨[], [2], []⟩ else bif Nat.beq id 5000008 then some ⟨[], [1, 3], [8]⟩ else bif Nat.beq id 2000008 then some ⟨[], [2], []⟩ else bif Nat.beq id 7000013 then some ⟨[], [1], [8]⟩ else bif Nat.beq id 2000013 then some ⟨[], [2], []⟩ else none
def spec_BookOk_Ls (n : Nat) : Nat → Option (LSpec T) := fun id => bif Nat.beq id 2 then some (spec_BookOk_2_sp n) else bif Nat.beq id 8 then some (spec_BookOk_8_sp n) else bif Nat.beq id 13 then some (spec_BookOk_13_sp n) else none
theorem spec_BookOk_2_le (n : Nat) : LoopEq (T := T) (Phi n 36) (spec_BookOk_Ls n) spec_BookOk_ann n spec_BookOk_2_c (spec_BookOk_2_sp n) := ⟨mkSpec_dec (fun y => rfl), fun c x => by kernel_rfl, fun K J c x => by kernel_rfl⟩
theorem spec_BookOk_8_le (n : Nat) : LoopEq (T := T) (Phi n 36) (spec_BookOk_Ls n) spec_BookOk_ann n spec_BookOk_8_c (spec_BookOk_8_sp n) := ⟨mkSpec_dec (fun y => rfl), fun c x => by kernel_rfl, fun K J c x => by kernel_rfl⟩
theorem spec_BookOk_13_le (n : Nat) : LoopEq (T := T) (Phi n 36) (spec_BookOk_Ls n) spec_BookOk_ann n spec_BookOk_13_c (spec_BookOk_13_sp n) := ⟨mkSpec_dec (fun y => rfl), fun c x => by kernel_rfl, fun K J c x => by kernel_rfl⟩
theorem spec_BookOk_tie (n : Nat) (b0 : SBook) : evF (T := T) (Phi n 36) (spec_BookOk_Ls n) spec_BookOk_ann n Try.f85 (sg 85) [vA T 31 b0] spec_BookOk_dec = spec_BookOk n b0 := by kernel_rfl
theorem spec_BookOk_lo (n : Nat) : LoopsOk (T := T) (Phi n 36) (spec_BookOk_Ls n) spec_BookOk_ann n spec_BookOk_code := loopsOk_all (cs := [spec_BookOk_2_c, spec_BookOk_8_c, spec_BookOk_13_c]) (by kernel_rfl) ⟨⟨_, by kernel_rfl, spec_BookOk_2_le n⟩, ⟨_, by kernel_rfl, spec_BookOk_8_le n⟩, ⟨_, by kernel_rfl, spec_BookOk_13_le n⟩, trivial⟩
theorem spec_BookOk_ok (n : Nat) : EntOk Try.prog (ents n) (spec_BookOk_ent n) := by
  intro hs ar y hg h
  replace h : spec_BookOk_D n ar = some y := h
  unfold spec_BookOk_D at h
  replace h := ocons_some h
  obtain ⟨a0, r0, rfl, h⟩ := h
  replace h := onil_some h
  obtain ⟨rfl, h⟩ := h
  obtain ⟨b0, qh0, h⟩ := obind_some h
  rw [argV_eq ok qh0]
  exact call_of (phiE_nat _ _) hs ok mixed Try.func85 (c := spec_BookOk_code) (by kernel_rfl) (spec_BookOk_lo n) (by kernel_rfl) (by kernel_rfl) (by kernel_rfl) spec_BookOk_de ((spec_BookOk_tie n b0).trans h)
noncomputable def spec_Duty6_code : Code := match Try.f138.body with | some c => c | none => .skip
def spec_Duty6_ann : Ann := fun id => none
def spec_Duty6_Ls (n : Nat) : Nat → Option (LSpec T) := fun id => none
theorem spec_Duty6_tie (n : Nat) (many0 : Int) (value1 : Int) (rate2 : Int) : evF (T := T) (Phi n 37) (spec_Duty6_Ls n) spec_Duty6_ann n Try.f138 (sg 138) [vA T 3 many0, vA T 3 value1, vA T 3 rate2] spec_Duty6_dec = spec_Duty6 n many0 value1 rate2 := by kernel_rfl
theorem spec_Duty6_lo (n : Nat) : LoopsOk (T := T) (Phi n 37) (spec_Duty6_Ls n) spec_Duty6_ann n spec_Duty6_code := loopsOk_all (cs := []) (by kernel_rfl) trivial
theorem spec_Duty6_ok (n : Nat) : EntOk Try.prog (ents n) (spec_Duty6_ent n) := by
  intro hs ar y hg h
  replace h : spec_Duty6_D n ar = some y := h
  unfold spec_Duty6_D at h
  replace h := ocons_some h
  obtain ⟨a0, r0, rfl, h⟩ := h
  replace h := ocons_some h
  obtain ⟨a1, r1, rfl, h⟩ := h
  replace h := ocons_some h
  obtain ⟨a2, r2, rfl, h⟩ := h
  replace h := onil_some h
  obtain ⟨rfl, h⟩ := h
  obtain ⟨many0, qh0, h⟩ := obind_some h
  obtain ⟨value1, qh1, h⟩ := obind_some h
  obtain ⟨rate2, qh2, h⟩ := obind_some h
  rw [argV_eq ok qh0, argV_eq ok qh1, argV_eq ok qh2]
  exact call_of (phiE_nat _ _) hs ok mixed Try.func138 (c := spec_Duty6_code) (by kernel_rfl) (spec_Duty6_lo n) (by kernel_rfl) (by kernel_rfl) (by kernel_rfl) spec_Duty6_de ((spec_Duty6_tie n many0 value1 rate2).trans h)
noncomputable def spec_HouseOk_code : Code := match Try.f172.body with | some c => c | none => .skip
def spec_HouseOk_5_sv : List Sv := [.one (.ptr 8 0 0), .one (.own 3000000 3 false), .one (.int .i64)]
def spec_HouseOk_5_so : List So := [.var [.arr 116, .arr 114, .int .i64], .arr 3 false]
def spec_HouseOk_5_emb (c : SHouse) (x : Int × List Int) : EVs T spec_HouseOk_5_sv × EOs T spec_HouseOk_5_so := (((), (), x.1, ()), ((c.Lots, c.Traders, c.Taken, ()), x.2, ()))
def spec_HouseOk_5_prj (y : EVs T spec_HouseOk_5_sv × EOs T spec_HouseOk_5_so) : SHouse × (Int × List Int) := ((((⟨y.2.1.1, y.2.1.2.1, y.2.1.2.2.1⟩ : SHouse) : SHouse)), (y.1.2.2.1, y.2.2.1))
def spec_HouseOk_5_b (n : Nat) {R : Type} (K : Ex → Sm.St T → Option R) (c : SHouse) (x : Int × List Int) (J : (Int × List Int) → Option R) : Option R :=
  spec_HouseOk_L5 n (fun (y1 : List Int) => K (.exit 0) (stOf (T := T) [1, 3] [8, 3000000] [.one (.ptr 8 0 0), .one (.own 3000000 3 false)] [.var [.arr 116, .arr 114, .int .i64], .arr 3 false] ((), (), ()) ((c.Lots, c.Traders, c.Taken, ()), y1, ()))) (fun (y0 : Bool) => K .ret (stOf (T := T) [2] [] [.one (.bool)] [] (y0, ()) ())) (fun z0 z1 => J (z0, z1)) x.1 c x.2
def spec_HouseOk_5_sp (n : Nat) : LSpec T := mkSpec T ⟨[((.reg 3), 3000000, 3)], [1, 3, 4], [8, 3000000]⟩ spec_HouseOk_5_sv spec_HouseOk_5_so (SHouse) (Int × List Int) spec_HouseOk_5_emb spec_HouseOk_5_prj (spec_HouseOk_5_b n)
noncomputable def spec_HouseOk_5_c : Code := ((loopCodes spec_HouseOk_code)[0]?).getD .skip
def spec_HouseOk_17_sv : List Sv := [.one (.ptr 8 0 0), .one (.own 3000000 3 false), .one (.int .i64)]
def spec_HouseOk_17_so : List So := [.var [.arr 116, .arr 114, .int .i64], .arr 3 false]
def spec_HouseOk_17_emb (c : SHouse × List Int) (x : Int) : EVs T spec_HouseOk_17_sv × EOs T spec_HouseOk_17_so := (((), (), x, ()), ((c.1.Lots, c.1.Traders, c.1.Taken, ()), c.2, ()))
def spec_HouseOk_17_prj (y : EVs T spec_HouseOk_17_sv × EOs T spec_HouseOk_17_so) : (SHouse × List Int) × Int := ((((⟨y.2.1.1, y.2.1.2.1, y.2.1.2.2.1⟩ : SHouse) : SHouse), y.2.2.1), (y.1.2.2.1))
def spec_HouseOk_17_b (n : Nat) {R : Type} (K : Ex → Sm.St T → Option R) (c : SHouse × List Int) (x : Int) (J : Int → Option R) : Option R :=
  spec_HouseOk_L17 n (K (.exit 2) (stOf (T := T) [] [] [] [] () ())) (fun (y0 : Bool) => K .ret (stOf (T := T) [2] [] [.one (.bool)] [] (y0, ()) ())) J x c.1 c.2
def spec_HouseOk_17_sp (n : Nat) : LSpec T := mkSpec T ⟨[((.reg 3), 3000000, 3)], [1, 3, 8], [8, 3000000]⟩ spec_HouseOk_17_sv spec_HouseOk_17_so (SHouse × List Int) (Int) spec_HouseOk_17_emb spec_HouseOk_17_prj (spec_HouseOk_17_b n)
noncomputable def spec_HouseOk_17_c : Code := ((loopCodes spec_HouseOk_code)[1]?).getD .skip
def spec_HouseOk_ann : Ann := fun id => bif Nat.beq id 3000005 then some ⟨[((.reg 3), 3000000, 3)], [1, 3], [8, 3000000]⟩ else bif Nat.beq id 2000005 then some ⟨[], [2], []⟩ else bif Nat.beq id 5000017 then some ⟨[], [], []⟩ else bif Nat.beq id 2000017 then some ⟨[], [2], []⟩ else none
def spec_HouseOk_Ls (n : Nat) : Nat → Option (LSpec T) := fun id => bif Nat.beq id 5 then some (spec_HouseOk_5_sp n) else bif Nat.beq id 17 then some (spec_HouseOk_17_sp n) else none
theorem spec_HouseOk_5_le (n : Nat) : LoopEq (T := T) (Phi n 38) (spec_HouseOk_Ls n) spec_HouseOk_ann n spec_HouseOk_5_c (spec_HouseOk_5_sp n) := ⟨mkSpec_dec (fun y => rfl), fun c x => by kernel_rfl, fun K J c x => by kernel_rfl⟩
theorem spec_HouseOk_17_le (n : Nat) : LoopEq (T := T) (Phi n 38) (spec_HouseOk_Ls n) spec_HouseOk_ann n spec_HouseOk_17_c (spec_HouseOk_17_sp n) := ⟨mkSpec_dec (fun y => rfl), fun c x => by kernel_rfl, fun K J c x => by kernel_rfl⟩
theorem spec_HouseOk_tie (n : Nat) (h0 : SHouse) : evF (T := T) (Phi n 38) (spec_HouseOk_Ls n) spec_HouseOk_ann n Try.f172 (sg 172) [vA T 92 h0] spec_HouseOk_dec = spec_HouseOk n h0 := by kernel_rfl
theorem spec_HouseOk_lo (n : Nat) : LoopsOk (T := T) (Phi n 38) (spec_HouseOk_Ls n) spec_HouseOk_ann n spec_HouseOk_code := loopsOk_all (cs := [spec_HouseOk_5_c, spec_HouseOk_17_c]) (by kernel_rfl) ⟨⟨_, by kernel_rfl, spec_HouseOk_5_le n⟩, ⟨_, by kernel_rfl, spec_HouseOk_17_le n⟩, trivial⟩
theorem spec_HouseOk_ok (n : Nat) : EntOk Try.prog (ents n) (spec_HouseOk_ent n) := by
  intro hs ar y hg h
  replace h : spec_HouseOk_D n ar = some y := h
  unfold spec_HouseOk_D at h
  replace h := ocons_some h
  obtain ⟨a0, r0, rfl, h⟩ := h
  replace h := onil_some h
  obtain ⟨rfl, h⟩ := h
  obtain ⟨h0, qh0, h⟩ := obind_some h
  rw [argV_eq ok qh0]
  exact call_of (phiE_nat _ _) hs ok mixed Try.func172 (c := spec_HouseOk_code) (by kernel_rfl) (spec_HouseOk_lo n) (by kernel_rfl) (by kernel_rfl) (by kernel_rfl) spec_HouseOk_de ((spec_HouseOk_tie n h0).trans h)
noncomputable def spec_PortOk_code : Code := match Try.f78.body with | some c => c | none => .skip
def spec_PortOk_ann : Ann := fun id => none
def spec_PortOk_Ls (n : Nat) : Nat → Option (LSpec T) := fun id => none
theorem spec_PortOk_tie (n : Nat) (p0 : SPort) : evF (T := T) (Phi n 39) (spec_PortOk_Ls n) spec_PortOk_ann n Try.f78 (sg 78) [vA T 140 p0] spec_PortOk_dec = spec_PortOk n p0 := by kernel_rfl
theorem spec_PortOk_lo (n : Nat) : LoopsOk (T := T) (Phi n 39) (spec_PortOk_Ls n) spec_PortOk_ann n spec_PortOk_code := loopsOk_all (cs := []) (by kernel_rfl) trivial
theorem spec_PortOk_ok (n : Nat) : EntOk Try.prog (ents n) (spec_PortOk_ent n) := by
  intro hs ar y hg h
  replace h : spec_PortOk_D n ar = some y := h
  unfold spec_PortOk_D at h
  replace h := ocons_some h
  obtain ⟨a0, r0, rfl, h⟩ := h
  replace h := onil_some h
  obtain ⟨rfl, h⟩ := h
  obtain ⟨p0, qh0, h⟩ := obind_some h
  rw [argV_eq ok qh0]
  exact call_of (phiE_nat _ _) hs ok mixed Try.func78 (c := spec_PortOk_code) (by kernel_rfl) (spec_PortOk_lo n) (by kernel_rfl) (by kernel_rfl) (by kernel_rfl) spec_PortOk_de ((spec_PortOk_tie n p0).trans h)
noncomputable def impl_in_code : Code := match Try.f101.body with | some c => c | none => .skip
def impl_in_ann : Ann := fun id => none
def impl_in_Ls (n : Nat) : Nat → Option (LSpec T) := fun id => none
theorem impl_in_tie (n : Nat) (n0 : Int) (least1 : Int) (most2 : Int) : evF (T := T) (Phi n 40) (impl_in_Ls n) impl_in_ann n Try.f101 (sg 101) [vA T 3 n0, vA T 3 least1, vA T 3 most2] impl_in_dec = impl_in n n0 least1 most2 := by kernel_rfl
theorem impl_in_lo (n : Nat) : LoopsOk (T := T) (Phi n 40) (impl_in_Ls n) impl_in_ann n impl_in_code := loopsOk_all (cs := []) (by kernel_rfl) trivial
theorem impl_in_ok (n : Nat) : EntOk Try.prog (ents n) (impl_in_ent n) := by
  intro hs ar y hg h
  replace h : impl_in_D n ar = some y := h
  unfold impl_in_D at h
  replace h := ocons_some h
  obtain ⟨a0, r0, rfl, h⟩ := h
  replace h := ocons_some h
  obtain ⟨a1, r1, rfl, h⟩ := h
  replace h := ocons_some h
  obtain ⟨a2, r2, rfl, h⟩ := h
  replace h := onil_some h
  obtain ⟨rfl, h⟩ := h
  obtain ⟨n0, qh0, h⟩ := obind_some h
  obtain ⟨least1, qh1, h⟩ := obind_some h
  obtain ⟨most2, qh2, h⟩ := obind_some h
  rw [argV_eq ok qh0, argV_eq ok qh1, argV_eq ok qh2]
  exact call_of (phiE_nat _ _) hs ok mixed Try.func101 (c := impl_in_code) (by kernel_rfl) (impl_in_lo n) (by kernel_rfl) (by kernel_rfl) (by kernel_rfl) impl_in_de ((impl_in_tie n n0 least1 most2).trans h)
noncomputable def impl_idRight_code : Code := match Try.f102.body with | some c => c | none => .skip
def impl_idRight_ann : Ann := fun id => none
def impl_idRight_Ls (n : Nat) : Nat → Option (LSpec T) := fun id => none
theorem impl_idRight_tie (n : Nat) (n0 : Int) : evF (T := T) (Phi n 41) (impl_idRight_Ls n) impl_idRight_ann n Try.f102 (sg 102) [vA T 3 n0] impl_idRight_dec = impl_idRight n n0 := by kernel_rfl
theorem impl_idRight_lo (n : Nat) : LoopsOk (T := T) (Phi n 41) (impl_idRight_Ls n) impl_idRight_ann n impl_idRight_code := loopsOk_all (cs := []) (by kernel_rfl) trivial
theorem impl_idRight_ok (n : Nat) : EntOk Try.prog (ents n) (impl_idRight_ent n) := by
  intro hs ar y hg h
  replace h : impl_idRight_D n ar = some y := h
  unfold impl_idRight_D at h
  replace h := ocons_some h
  obtain ⟨a0, r0, rfl, h⟩ := h
  replace h := onil_some h
  obtain ⟨rfl, h⟩ := h
  obtain ⟨n0, qh0, h⟩ := obind_some h
  rw [argV_eq ok qh0]
  exact call_of (phiE_nat _ _) hs ok mixed Try.func102 (c := impl_idRight_code) (by kernel_rfl) (impl_idRight_lo n) (by kernel_rfl) (by kernel_rfl) (by kernel_rfl) impl_idRight_de ((impl_idRight_tie n n0).trans h)
noncomputable def impl_minuteOk_code : Code := match Try.f211.body with | some c => c | none => .skip
def impl_minuteOk_ann : Ann := fun id => none
def impl_minuteOk_Ls (n : Nat) : Nat → Option (LSpec T) := fun id => none
theorem impl_minuteOk_tie (n : Nat) (n0 : Int) : evF (T := T) (Phi n 42) (impl_minuteOk_Ls n) impl_minuteOk_ann n Try.f211 (sg 211) [vA T 3 n0] impl_minuteOk_dec = impl_minuteOk n n0 := by kernel_rfl
theorem impl_minuteOk_lo (n : Nat) : LoopsOk (T := T) (Phi n 42) (impl_minuteOk_Ls n) impl_minuteOk_ann n impl_minuteOk_code := loopsOk_all (cs := []) (by kernel_rfl) trivial
theorem impl_minuteOk_ok (n : Nat) : EntOk Try.prog (ents n) (impl_minuteOk_ent n) := by
  intro hs ar y hg h
  replace h : impl_minuteOk_D n ar = some y := h
  unfold impl_minuteOk_D at h
  replace h := ocons_some h
  obtain ⟨a0, r0, rfl, h⟩ := h
  replace h := onil_some h
  obtain ⟨rfl, h⟩ := h
  obtain ⟨n0, qh0, h⟩ := obind_some h
  rw [argV_eq ok qh0]
  exact call_of (phiE_nat _ _) hs ok mixed Try.func211 (c := impl_minuteOk_code) (by kernel_rfl) (impl_minuteOk_lo n) (by kernel_rfl) (by kernel_rfl) (by kernel_rfl) impl_minuteOk_de ((impl_minuteOk_tie n n0).trans h)
noncomputable def impl_callOk_code : Code := match Try.f161.body with | some c => c | none => .skip
def impl_callOk_ann : Ann := fun id => none
def impl_callOk_Ls (n : Nat) : Nat → Option (LSpec T) := fun id => none
theorem impl_callOk_tie (n : Nat) (long0 : Int) (c1 : SCall) : evF (T := T) (Phi n 43) (impl_callOk_Ls n) impl_callOk_ann n Try.f161 (sg 161) [vA T 3 long0, vA T 126 c1] impl_callOk_dec = impl_callOk n long0 c1 := by kernel_rfl
theorem impl_callOk_lo (n : Nat) : LoopsOk (T := T) (Phi n 43) (impl_callOk_Ls n) impl_callOk_ann n impl_callOk_code := loopsOk_all (cs := []) (by kernel_rfl) trivial
theorem impl_callOk_ok (n : Nat) : EntOk Try.prog (ents n) (impl_callOk_ent n) := by
  intro hs ar y hg h
  replace h : impl_callOk_D n ar = some y := h
  unfold impl_callOk_D at h
  replace h := ocons_some h
  obtain ⟨a0, r0, rfl, h⟩ := h
  replace h := ocons_some h
  obtain ⟨a1, r1, rfl, h⟩ := h
  replace h := onil_some h
  obtain ⟨rfl, h⟩ := h
  obtain ⟨long0, qh0, h⟩ := obind_some h
  obtain ⟨c1, qh1, h⟩ := obind_some h
  rw [argV_eq ok qh0, argV_eq ok qh1]
  exact call_of (phiE_nat _ _) hs ok mixed Try.func161 (c := impl_callOk_code) (by kernel_rfl) (impl_callOk_lo n) (by kernel_rfl) (by kernel_rfl) (by kernel_rfl) impl_callOk_de ((impl_callOk_tie n long0 c1).trans h)
noncomputable def impl_CallsOk_code : Code := match Try.f67.body with | some c => c | none => .skip
def impl_CallsOk_4_sv : List Sv := [.one (.int .i64), .one (.arr 126), .one (.arr 126), .one (.int .i64), .one (.int .i64)]
def impl_CallsOk_4_so : List So := []
def impl_CallsOk_4_emb (c : Int × List SCall × List SCall × Int) (x : Int) : EVs T impl_CallsOk_4_sv × EOs T impl_CallsOk_4_so := ((c.1, c.2.1, c.2.2.1, c.2.2.2, x, ()), ())
def impl_CallsOk_4_prj (y : EVs T impl_CallsOk_4_sv × EOs T impl_CallsOk_4_so) : (Int × List SCall × List SCall × Int) × Int := ((y.1.1, y.1.2.1, y.1.2.2.1, y.1.2.2.2.1), (y.1.2.2.2.2.1))
def impl_CallsOk_4_b (n : Nat) {R : Type} (K : Ex → Sm.St T → Option R) (c : Int × List SCall × List SCall × Int) (x : Int) (J : Int → Option R) : Option R :=
  impl_CallsOk_L4 n (K (.exit 0) (stOf (T := T) [] [] [] [] () ())) (fun (y0 : Bool) => K .ret (stOf (T := T) [4] [] [.one (.bool)] [] (y0, ()) ())) J c.1 c.2.1 c.2.2.1 c.2.2.2 x
def impl_CallsOk_4_sp (n : Nat) : LSpec T := mkSpec T ⟨[], [0, 1, 15, 16, 17], []⟩ impl_CallsOk_4_sv impl_CallsOk_4_so (Int × List SCall × List SCall × Int) (Int) impl_CallsOk_4_emb impl_CallsOk_4_prj (impl_CallsOk_4_b n)
noncomputable def impl_CallsOk_4_c : Code := ((loopCodes impl_CallsOk_code)[0]?).getD .skip
def impl_CallsOk_ann : Ann := fun id => bif Nat.beq id 3000004 then some ⟨[], [], []⟩ else bif Nat.beq id 2000004 then some ⟨[], [4], []⟩ else none
def impl_CallsOk_Ls (n : Nat) : Nat → Option (LSpec T) := fun id => bif Nat.beq id 4 then some (impl_CallsOk_4_sp n) else none
theorem impl_CallsOk_4_le (n : Nat) : LoopEq (T := T) (Phi n 44) (impl_CallsOk_Ls n) impl_CallsOk_ann n impl_CallsOk_4_c (impl_CallsOk_4_sp n) := ⟨mkSpec_dec (fun y => rfl), fun c x => by kernel_rfl, fun K J c x => by kernel_rfl⟩
theorem impl_CallsOk_tie (n : Nat) (long0 : Int) (calls1 : List SCall) : evF (T := T) (Phi n 44) (impl_CallsOk_Ls n) impl_CallsOk_ann n Try.f67 (sg 67) [vA T 3 long0, vA T 119 calls1] impl_CallsOk_dec = impl_CallsOk n long0 calls1 := by kernel_rfl
theorem impl_CallsOk_lo (n : Nat) : LoopsOk (T := T) (Phi n 44) (impl_CallsOk_Ls n) impl_CallsOk_ann n impl_CallsOk_code := loopsOk_all (cs := [impl_CallsOk_4_c]) (by kernel_rfl) ⟨⟨_, by kernel_rfl, impl_CallsOk_4_le n⟩, trivial⟩
theorem impl_CallsOk_ok (n : Nat) : EntOk Try.prog (ents n) (impl_CallsOk_ent n) := by
  intro hs ar y hg h
  replace h : impl_CallsOk_D n ar = some y := h
  unfold impl_CallsOk_D at h
  replace h := ocons_some h
  obtain ⟨a0, r0, rfl, h⟩ := h
  replace h := ocons_some h
  obtain ⟨a1, r1, rfl, h⟩ := h
  replace h := onil_some h
  obtain ⟨rfl, h⟩ := h
  obtain ⟨long0, qh0, h⟩ := obind_some h
  obtain ⟨calls1, qh1, h⟩ := obind_some h
  rw [argV_eq ok qh0, argV_eq ok qh1]
  exact call_of (phiE_nat _ _) hs ok mixed Try.func67 (c := impl_CallsOk_code) (by kernel_rfl) (impl_CallsOk_lo n) (by kernel_rfl) (by kernel_rfl) (by kernel_rfl) impl_CallsOk_de ((impl_CallsOk_tie n long0 calls1).trans h)
noncomputable def impl_shares_code : Code := match Try.f164.body with | some c => c | none => .skip
def impl_shares_ann : Ann := fun id => none
def impl_shares_Ls (n : Nat) : Nat → Option (LSpec T) := fun id => none
theorem impl_shares_tie (n : Nat) (a0 : SCall) (b1 : SCall) : evF (T := T) (Phi n 45) (impl_shares_Ls n) impl_shares_ann n Try.f164 (sg 164) [vA T 126 a0, vA T 126 b1] impl_shares_dec = impl_shares n a0 b1 := by kernel_rfl
theorem impl_shares_lo (n : Nat) : LoopsOk (T := T) (Phi n 45) (impl_shares_Ls n) impl_shares_ann n impl_shares_code := loopsOk_all (cs := []) (by kernel_rfl) trivial
theorem impl_shares_ok (n : Nat) : EntOk Try.prog (ents n) (impl_shares_ent n) := by
  intro hs ar y hg h
  replace h : impl_shares_D n ar = some y := h
  unfold impl_shares_D at h
  replace h := ocons_some h
  obtain ⟨a0, r0, rfl, h⟩ := h
  replace h := ocons_some h
  obtain ⟨a1, r1, rfl, h⟩ := h
  replace h := onil_some h
  obtain ⟨rfl, h⟩ := h
  obtain ⟨a0, qh0, h⟩ := obind_some h
  obtain ⟨b1, qh1, h⟩ := obind_some h
  rw [argV_eq ok qh0, argV_eq ok qh1]
  exact call_of (phiE_nat _ _) hs ok mixed Try.func164 (c := impl_shares_code) (by kernel_rfl) (impl_shares_lo n) (by kernel_rfl) (by kernel_rfl) (by kernel_rfl) impl_shares_de ((impl_shares_tie n a0 b1).trans h)
noncomputable def impl_Clear17_1_code : Code := match Try.f163.body with | some c => c | none => .skip
def impl_Clear17_1_ann : Ann := fun id => none
def impl_Clear17_1_Ls (n : Nat) : Nat → Option (LSpec T) := fun id => none
theorem impl_Clear17_1_tie (n : Nat) (x0 : SCall) (a1 : SCall) : evF (T := T) (Phi n 46) (impl_Clear17_1_Ls n) impl_Clear17_1_ann n Try.f163 (sg 163) [vA T 126 x0, .ptr 126 a1] impl_Clear17_1_dec = impl_Clear17_1 n x0 a1 := by kernel_rfl
theorem impl_Clear17_1_lo (n : Nat) : LoopsOk (T := T) (Phi n 46) (impl_Clear17_1_Ls n) impl_Clear17_1_ann n impl_Clear17_1_code := loopsOk_all (cs := []) (by kernel_rfl) trivial
theorem impl_Clear17_1_ok (n : Nat) : EntOk Try.prog (ents n) (impl_Clear17_1_ent n) := by
  intro hs ar y hg h
  replace h : impl_Clear17_1_D n ar = some y := h
  unfold impl_Clear17_1_D at h
  replace h := ocons_some h
  obtain ⟨a0, r0, rfl, h⟩ := h
  replace h := ocons_some h
  obtain ⟨a1, r1, rfl, h⟩ := h
  replace h := onil_some h
  obtain ⟨rfl, h⟩ := h
  obtain ⟨x0, qh0, h⟩ := obind_some h
  obtain ⟨a1, qh1, h⟩ := obind_some h
  rw [argV_eq ok qh0, argP_eq qh1]
  exact call_of (phiE_nat _ _) hs ok mixed Try.func163 (c := impl_Clear17_1_code) (by kernel_rfl) (impl_Clear17_1_lo n) (by kernel_rfl) (by kernel_rfl) (by kernel_rfl) impl_Clear17_1_de ((impl_Clear17_1_tie n x0 a1).trans h)
noncomputable def slices_IndexFunc_impl_Call_impl_Call__impl_Clear17_1_code : Code := match Try.f165.body with | some c => c | none => .skip
def slices_IndexFunc_impl_Call_impl_Call__impl_Clear17_1_2_sv : List Sv := [.one (.arr 126), .one (.fnr 163 [126]), .one (.int .i64), .one (.int .i64)]
def slices_IndexFunc_impl_Call_impl_Call__impl_Clear17_1_2_so : List So := []
def slices_IndexFunc_impl_Call_impl_Call__impl_Clear17_1_2_emb (c : List SCall × SCall × Int) (x : Int) : EVs T slices_IndexFunc_impl_Call_impl_Call__impl_Clear17_1_2_sv × EOs T slices_IndexFunc_impl_Call_impl_Call__impl_Clear17_1_2_so := ((c.1, (c.2.1, ()), c.2.2, x, ()), ())
def slices_IndexFunc_impl_Call_impl_Call__impl_Clear17_1_2_prj (y : EVs T slices_IndexFunc_impl_Call_impl_Call__impl_Clear17_1_2_sv × EOs T slices_IndexFunc_impl_Call_impl_Call__impl_Clear17_1_2_so) : (List SCall × SCall × Int) × Int := ((y.1.1, y.1.2.1.1, y.1.2.2.1), (y.1.2.2.2.1))
def slices_IndexFunc_impl_Call_impl_Call__impl_Clear17_1_2_b (n : Nat) {R : Type} (K : Ex → Sm.St T → Option R) (c : List SCall × SCall × Int) (x : Int) (J : Int → Option R) : Option R :=
  slices_IndexFunc_impl_Call_impl_Call__impl_Clear17_1_L2 n (K (.exit 0) (stOf (T := T) [] [] [] [] () ())) (fun (y0 : Int) => K .ret (stOf (T := T) [4] [] [.one (.int .i64)] [] (y0, ()) ())) J c.1 c.2.1 c.2.2 x
def slices_IndexFunc_impl_Call_impl_Call__impl_Clear17_1_2_sp (n : Nat) : LSpec T := mkSpec T ⟨[], [0, 1, 7, 8], []⟩ slices_IndexFunc_impl_Call_impl_Call__impl_Clear17_1_2_sv slices_IndexFunc_impl_Call_impl_Call__impl_Clear17_1_2_so (List SCall × SCall × Int) (Int) slices_IndexFunc_impl_Call_impl_Call__impl_Clear17_1_2_emb slices_IndexFunc_impl_Call_impl_Call__impl_Clear17_1_2_prj (slices_IndexFunc_impl_Call_impl_Call__impl_Clear17_1_2_b n)
noncomputable def slices_IndexFunc_impl_Call_impl_Call__impl_Clear17_1_2_c : Code := ((loopCodes slices_IndexFunc_impl_Call_impl_Call__impl_Clear17_1_code)[0]?).getD .skip
def slices_IndexFunc_impl_Call_impl_Call__impl_Clear17_1_ann : Ann := fun id => bif Nat.beq id 3000002 then some ⟨[], [], []⟩ else bif Nat.beq id 2000002 then some ⟨[], [4], []⟩ else none
def slices_IndexFunc_impl_Call_impl_Call__impl_Clear17_1_Ls (n : Nat) : Nat → Option (LSpec T) := fun id => bif Nat.beq id 2 then some (slices_IndexFunc_impl_Call_impl_Call__impl_Clear17_1_2_sp n) else none
theorem slices_IndexFunc_impl_Call_impl_Call__impl_Clear17_1_2_le (n : Nat) : LoopEq (T := T) (Phi n 47) (slices_IndexFunc_impl_Call_impl_Call__impl_Clear17_1_Ls n) slices_IndexFunc_impl_Call_impl_Call__impl_Clear17_1_ann n slices_IndexFunc_impl_Call_impl_Call__impl_Clear17_1_2_c (slices_IndexFunc_impl_Call_impl_Call__impl_Clear17_1_2_sp n) := ⟨mkSpec_dec (fun y => rfl), fun c x => by kernel_rfl, fun K J c x => by kernel_rfl⟩
theorem slices_IndexFunc_impl_Call_impl_Call__impl_Clear17_1_tie (n : Nat) (s0 : List SCall) (f1c0 : SCall) : evF (T := T) (Phi n 47) (slices_IndexFunc_impl_Call_impl_Call__impl_Clear17_1_Ls n) slices_IndexFunc_impl_Call_impl_Call__impl_Clear17_1_ann n Try.f165 (sg 165) [vA T 119 s0, .fn 163 [.ptr 126 f1c0]] slices_IndexFunc_impl_Call_impl_Call__impl_Clear17_1_dec = slices_IndexFunc_impl_Call_impl_Call__impl_Clear17_1 n s0 f1c0 := by kernel_rfl
theorem slices_IndexFunc_impl_Call_impl_Call__impl_Clear17_1_lo (n : Nat) : LoopsOk (T := T) (Phi n 47) (slices_IndexFunc_impl_Call_impl_Call__impl_Clear17_1_Ls n) slices_IndexFunc_impl_Call_impl_Call__impl_Clear17_1_ann n slices_IndexFunc_impl_Call_impl_Call__impl_Clear17_1_code := loopsOk_all (cs := [slices_IndexFunc_impl_Call_impl_Call__impl_Clear17_1_2_c]) (by kernel_rfl) ⟨⟨_, by kernel_rfl, slices_IndexFunc_impl_Call_impl_Call__impl_Clear17_1_2_le n⟩, trivial⟩
theorem slices_IndexFunc_impl_Call_impl_Call__impl_Clear17_1_ok (n : Nat) : EntOk Try.prog (ents n) (slices_IndexFunc_impl_Call_impl_Call__impl_Clear17_1_ent n) := by
  intro hs ar y hg h
  replace h : slices_IndexFunc_impl_Call_impl_Call__impl_Clear17_1_D n ar = some y := h
  unfold slices_IndexFunc_impl_Call_impl_Call__impl_Clear17_1_D at h
  split at h
  · obtain ⟨s0, qh0, h⟩ := obind_some h
    obtain ⟨f1c0, qh1, h⟩ := obind_some h
    rw [argV_eq ok qh0, argP_eq qh1] at hg ⊢
    cases (show [_] = [163] from natsEq_eq hg)
    exact call_of (phiE_nat _ _) hs ok mixed Try.func165 (c := slices_IndexFunc_impl_Call_impl_Call__impl_Clear17_1_code) (by kernel_rfl) (slices_IndexFunc_impl_Call_impl_Call__impl_Clear17_1_lo n) (by kernel_rfl) (by kernel_rfl) (by kernel_rfl) slices_IndexFunc_impl_Call_impl_Call__impl_Clear17_1_de ((slices_IndexFunc_impl_Call_impl_Call__impl_Clear17_1_tie n s0 f1c0).trans h)
  · cases h
noncomputable def slices_ContainsFunc_impl_Call_impl_Call__impl_Clear17_1_code : Code := match Try.f162.body with | some c => c | none => .skip
def slices_ContainsFunc_impl_Call_impl_Call__impl_Clear17_1_ann : Ann := fun id => none
def slices_ContainsFunc_impl_Call_impl_Call__impl_Clear17_1_Ls (n : Nat) : Nat → Option (LSpec T) := fun id => none
theorem slices_ContainsFunc_impl_Call_impl_Call__impl_Clear17_1_tie (n : Nat) (s0 : List SCall) (f1c0 : SCall) : evF (T := T) (Phi n 48) (slices_ContainsFunc_impl_Call_impl_Call__impl_Clear17_1_Ls n) slices_ContainsFunc_impl_Call_impl_Call__impl_Clear17_1_ann n Try.f162 (sg 162) [vA T 119 s0, .fn 163 [.ptr 126 f1c0]] slices_ContainsFunc_impl_Call_impl_Call__impl_Clear17_1_dec = slices_ContainsFunc_impl_Call_impl_Call__impl_Clear17_1 n s0 f1c0 := by kernel_rfl
theorem slices_ContainsFunc_impl_Call_impl_Call__impl_Clear17_1_lo (n : Nat) : LoopsOk (T := T) (Phi n 48) (slices_ContainsFunc_impl_Call_impl_Call__impl_Clear17_1_Ls n) slices_ContainsFunc_impl_Call_impl_Call__impl_Clear17_1_ann n slices_ContainsFunc_impl_Call_impl_Call__impl_Clear17_1_code := loopsOk_all (cs := []) (by kernel_rfl) trivial
theorem slices_ContainsFunc_impl_Call_impl_Call__impl_Clear17_1_ok (n : Nat) : EntOk Try.prog (ents n) (slices_ContainsFunc_impl_Call_impl_Call__impl_Clear17_1_ent n) := by
  intro hs ar y hg h
  replace h : slices_ContainsFunc_impl_Call_impl_Call__impl_Clear17_1_D n ar = some y := h
  unfold slices_ContainsFunc_impl_Call_impl_Call__impl_Clear17_1_D at h
  split at h
  · obtain ⟨s0, qh0, h⟩ := obind_some h
    obtain ⟨f1c0, qh1, h⟩ := obind_some h
    rw [argV_eq ok qh0, argP_eq qh1] at hg ⊢
    cases (show [_] = [163] from natsEq_eq hg)
    exact call_of (phiE_nat _ _) hs ok mixed Try.func162 (c := slices_ContainsFunc_impl_Call_impl_Call__impl_Clear17_1_code) (by kernel_rfl) (slices_ContainsFunc_impl_Call_impl_Call__impl_Clear17_1_lo n) (by kernel_rfl) (by kernel_rfl) (by kernel_rfl) slices_ContainsFunc_impl_Call_impl_Call__impl_Clear17_1_de ((slices_ContainsFunc_impl_Call_impl_Call__impl_Clear17_1_tie n s0 f1c0).trans h)
  · cases h
noncomputable def impl_Clear17_code : Code := match Try.f68.body with | some c => c | none => .skip
def impl_Clear17_4_sv : List Sv := [.one (.arr 126), .one (.arr 126), .one (.int .i64), .one (.int .i64)]
def impl_Clear17_4_so : List So := []
def impl_Clear17_4_emb (c : List SCall × List SCall × Int) (x : Int) : EVs T impl_Clear17_4_sv × EOs T impl_Clear17_4_so := ((c.1, c.2.1, c.2.2, x, ()), ())
def impl_Clear17_4_prj (y : EVs T impl_Clear17_4_sv × EOs T impl_Clear17_4_so) : (List SCall × List SCall × Int) × Int := ((y.1.1, y.1.2.1, y.1.2.2.1), (y.1.2.2.2.1))
def impl_Clear17_4_b (n : Nat) {R : Type} (K : Ex → Sm.St T → Option R) (c : List SCall × List SCall × Int) (x : Int) (J : Int → Option R) : Option R :=
  impl_Clear17_L4 n (K (.exit 0) (stOf (T := T) [] [] [] [] () ())) (fun (y0 : Bool) => K .ret (stOf (T := T) [4] [] [.one (.bool)] [] (y0, ()) ())) J c.1 c.2.1 c.2.2 x
def impl_Clear17_4_sp (n : Nat) : LSpec T := mkSpec T ⟨[], [1, 11, 12, 13], []⟩ impl_Clear17_4_sv impl_Clear17_4_so (List SCall × List SCall × Int) (Int) impl_Clear17_4_emb impl_Clear17_4_prj (impl_Clear17_4_b n)
noncomputable def impl_Clear17_4_c : Code := ((loopCodes impl_Clear17_code)[0]?).getD .skip
def impl_Clear17_ann : Ann := fun id => bif Nat.beq id 3000004 then some ⟨[], [], []⟩ else bif Nat.beq id 2000004 then some ⟨[], [4], []⟩ else none
def impl_Clear17_Ls (n : Nat) : Nat → Option (LSpec T) := fun id => bif Nat.beq id 4 then some (impl_Clear17_4_sp n) else none
theorem impl_Clear17_4_le (n : Nat) : LoopEq (T := T) (Phi n 49) (impl_Clear17_Ls n) impl_Clear17_ann n impl_Clear17_4_c (impl_Clear17_4_sp n) := ⟨mkSpec_dec (fun y => rfl), fun c x => by kernel_rfl, fun K J c x => by kernel_rfl⟩
theorem impl_Clear17_tie (n : Nat) (long0 : Int) (calls1 : List SCall) : evF (T := T) (Phi n 49) (impl_Clear17_Ls n) impl_Clear17_ann n Try.f68 (sg 68) [vA T 3 long0, vA T 119 calls1] impl_Clear17_dec = impl_Clear17 n long0 calls1 := by kernel_rfl
theorem impl_Clear17_lo (n : Nat) : LoopsOk (T := T) (Phi n 49) (impl_Clear17_Ls n) impl_Clear17_ann n impl_Clear17_code := loopsOk_all (cs := [impl_Clear17_4_c]) (by kernel_rfl) ⟨⟨_, by kernel_rfl, impl_Clear17_4_le n⟩, trivial⟩
theorem impl_Clear17_ok (n : Nat) : EntOk Try.prog (ents n) (impl_Clear17_ent n) := by
  intro hs ar y hg h
  replace h : impl_Clear17_D n ar = some y := h
  unfold impl_Clear17_D at h
  replace h := ocons_some h
  obtain ⟨a0, r0, rfl, h⟩ := h
  replace h := ocons_some h
  obtain ⟨a1, r1, rfl, h⟩ := h
  replace h := onil_some h
  obtain ⟨rfl, h⟩ := h
  obtain ⟨long0, qh0, h⟩ := obind_some h
  obtain ⟨calls1, qh1, h⟩ := obind_some h
  rw [argV_eq ok qh0, argV_eq ok qh1]
  exact call_of (phiE_nat _ _) hs ok mixed Try.func68 (c := impl_Clear17_code) (by kernel_rfl) (impl_Clear17_lo n) (by kernel_rfl) (by kernel_rfl) (by kernel_rfl) impl_Clear17_de ((impl_Clear17_tie n long0 calls1).trans h)
noncomputable def impl_YardOk_code : Code := match Try.f100.body with | some c => c | none => .skip
def impl_YardOk_5_sv : List Sv := [.one (.ptr 8 0 0), .one (.map 152), .one (.arr 23), .one (.int .i64), .one (.int .i64)]
def impl_YardOk_5_so : List So := [.var [.int .i64, .arr 23], .map 3 4]
def impl_YardOk_5_emb (c : List (List Int) × Int × SYard) (x : Int × (List (Int × Bool))) : EVs T impl_YardOk_5_sv × EOs T impl_YardOk_5_so := (((), (), c.1, c.2.1, x.1, ()), ((c.2.2.High, c.2.2.Stacks, ()), x.2, ()))
def impl_YardOk_5_prj (y : EVs T impl_YardOk_5_sv × EOs T impl_YardOk_5_so) : (List (List Int) × Int × SYard) × (Int × (List (Int × Bool))) := ((y.1.2.2.1, y.1.2.2.2.1, ((⟨y.2.1.1, y.2.1.2.1⟩ : SYard) : SYard)), (y.1.2.2.2.2.1, y.2.2.1))
def impl_YardOk_5_b (n : Nat) {R : Type} (K : Ex → Sm.St T → Option R) (c : List (List Int) × Int × SYard) (x : Int × (List (Int × Bool))) (J : (Int × (List (Int × Bool))) → Option R) : Option R :=
  impl_YardOk_L5 n (K (.exit 0) (stOf (T := T) [] [] [] [] () ())) (fun (y0 : Bool) => K .ret (stOf (T := T) [2] [] [.one (.bool)] [] (y0, ()) ())) (fun z0 z1 => J (z0, z1)) c.1 c.2.1 x.1 c.2.2 x.2
def impl_YardOk_5_sp (n : Nat) : LSpec T := mkSpec T ⟨[], [1, 3, 21, 22, 23], [8, 152]⟩ impl_YardOk_5_sv impl_YardOk_5_so (List (List Int) × Int × SYard) (Int × (List (Int × Bool))) impl_YardOk_5_emb impl_YardOk_5_prj (impl_YardOk_5_b n)
noncomputable def impl_YardOk_5_c : Code := ((loopCodes impl_YardOk_code)[0]?).getD .skip
def impl_YardOk_10_sv : List Sv := [.one (.ptr 8 0 0), .one (.map 152), .one (.arr 23), .one (.int .i64), .one (.int .i64), .one (.arr 3), .one (.int .i64), .one (.int .i64)]
def impl_YardOk_10_so : List So := [.var [.int .i64, .arr 23], .map 3 4]
def impl_YardOk_10_emb (c : List (List Int) × Int × Int × List Int × Int × SYard) (x : Int × (List (Int × Bool))) : EVs T impl_YardOk_10_sv × EOs T impl_YardOk_10_so := (((), (), c.1, c.2.1, c.2.2.1, c.2.2.2.1, c.2.2.2.2.1, x.1, ()), ((c.2.2.2.2.2.High, c.2.2.2.2.2.Stacks, ()), x.2, ()))
def impl_YardOk_10_prj (y : EVs T impl_YardOk_10_sv × EOs T impl_YardOk_10_so) : (List (List Int) × Int × Int × List Int × Int × SYard) × (Int × (List (Int × Bool))) := ((y.1.2.2.1, y.1.2.2.2.1, y.1.2.2.2.2.1, y.1.2.2.2.2.2.1, y.1.2.2.2.2.2.2.1, ((⟨y.2.1.1, y.2.1.2.1⟩ : SYard) : SYard)), (y.1.2.2.2.2.2.2.2.1, y.2.2.1))
def impl_YardOk_10_b (n : Nat) {R : Type} (K : Ex → Sm.St T → Option R) (c : List (List Int) × Int × Int × List Int × Int × SYard) (x : Int × (List (Int × Bool))) (J : (Int × (List (Int × Bool))) → Option R) : Option R :=
  impl_YardOk_L10 n (fun (y4 : List (Int × Bool)) => K (.exit 2) (stOf (T := T) [1, 3, 21, 22, 23] [8, 152] [.one (.ptr 8 0 0), .one (.map 152), .one (.arr 23), .one (.int .i64), .one (.int .i64)] [.var [.int .i64, .arr 23], .map 3 4] ((), (), c.1, c.2.1, c.2.2.1, ()) ((c.2.2.2.2.2.High, c.2.2.2.2.2.Stacks, ()), y4, ()))) (fun (y0 : Bool) => K .ret (stOf (T := T) [2] [] [.one (.bool)] [] (y0, ()) ())) (fun z0 z1 => J (z0, z1)) c.1 c.2.1 c.2.2.1 c.2.2.2.1 c.2.2.2.2.1 x.1 c.2.2.2.2.2 x.2
def impl_YardOk_10_sp (n : Nat) : LSpec T := mkSpec T ⟨[], [1, 3, 21, 22, 23, 32, 33, 34], [8, 152]⟩ impl_YardOk_10_sv impl_YardOk_10_so (List (List Int) × Int × Int × List Int × Int × SYard) (Int × (List (Int × Bool))) impl_YardOk_10_emb impl_YardOk_10_prj (impl_YardOk_10_b n)
noncomputable def impl_YardOk_10_c : Code := ((loopCodes impl_YardOk_code)[1]?).getD .skip
def impl_YardOk_ann : Ann := fun id => bif Nat.beq id 3000005 then some ⟨[], [], []⟩ else bif Nat.beq id 2000005 then some ⟨[], [2], []⟩ else bif Nat.beq id 5000010 then some ⟨[], [1, 3, 21, 22, 23], [8, 152]⟩ else bif Nat.beq id 2000010 then some ⟨[], [2], []⟩ else none
def impl_YardOk_Ls (n : Nat) : Nat → Option (LSpec T) := fun id => bif Nat.beq id 5 then some (impl_YardOk_5_sp n) else bif Nat.beq id 10 then some (impl_YardOk_10_sp n) else none
theorem impl_YardOk_5_le (n : Nat) : LoopEq (T := T) (Phi n 50) (impl_YardOk_Ls n) impl_YardOk_ann n impl_YardOk_5_c (impl_YardOk_5_sp n) := ⟨mkSpec_dec (fun y => rfl), fun c x => by kernel_rfl, fun K J c x => by kernel_rfl⟩
theorem impl_YardOk_10_le (n : Nat) : LoopEq (T := T) (Phi n 50) (impl_YardOk_Ls n) impl_YardOk_ann n impl_YardOk_10_c (impl_YardOk_10_sp n) := ⟨mkSpec_dec (fun y => rfl), fun c x => by kernel_rfl, fun K J c x => by kernel_rfl⟩
theorem impl_YardOk_tie (n : Nat) (y0 : SYard) : evF (T := T) (Phi n 50) (impl_YardOk_Ls n) impl_YardOk_ann n Try.f100 (sg 100) [vA T 41 y0] impl_YardOk_dec = impl_YardOk n y0 := by kernel_rfl
theorem impl_YardOk_lo (n : Nat) : LoopsOk (T := T) (Phi n 50) (impl_YardOk_Ls n) impl_YardOk_ann n impl_YardOk_code := loopsOk_all (cs := [impl_YardOk_5_c, impl_YardOk_10_c]) (by kernel_rfl) ⟨⟨_, by kernel_rfl, impl_YardOk_5_le n⟩, ⟨_, by kernel_rfl, impl_YardOk_10_le n⟩, trivial⟩
theorem impl_YardOk_ok (n : Nat) : EntOk Try.prog (ents n) (impl_YardOk_ent n) := by
  intro hs ar y hg h
  replace h : impl_YardOk_D n ar = some y := h
  unfold impl_YardOk_D at h
  replace h := ocons_some h
  obtain ⟨a0, r0, rfl, h⟩ := h
  replace h := onil_some h
  obtain ⟨rfl, h⟩ := h
  obtain ⟨y0, qh0, h⟩ := obind_some h
  rw [argV_eq ok qh0]
  exact call_of (phiE_nat _ _) hs ok mixed Try.func100 (c := impl_YardOk_code) (by kernel_rfl) (impl_YardOk_lo n) (by kernel_rfl) (by kernel_rfl) (by kernel_rfl) impl_YardOk_de ((impl_YardOk_tie n y0).trans h)
noncomputable def impl_nameOk_code : Code := match Try.f115.body with | some c => c | none => .skip
def impl_nameOk_4_sv : List Sv := [.one (.str), .one (.int .i64), .one (.int .i64)]
def impl_nameOk_4_so : List So := []
def impl_nameOk_4_emb (c : ByteArray × Int) (x : Int) : EVs T impl_nameOk_4_sv × EOs T impl_nameOk_4_so := ((c.1, c.2, x, ()), ())
def impl_nameOk_4_prj (y : EVs T impl_nameOk_4_sv × EOs T impl_nameOk_4_so) : (ByteArray × Int) × Int := ((y.1.1, y.1.2.1), (y.1.2.2.1))
def impl_nameOk_4_b (n : Nat) {R : Type} (K : Ex → Sm.St T → Option R) (c : ByteArray × Int) (x : Int) (J : Int → Option R) : Option R :=
  impl_nameOk_L4 n (K (.exit 0) (stOf (T := T) [] [] [] [] () ())) (fun (y0 : Bool) => K .ret (stOf (T := T) [2] [] [.one (.bool)] [] (y0, ()) ())) J c.1 c.2 x
def impl_nameOk_4_sp (n : Nat) : LSpec T := mkSpec T ⟨[], [0, 14, 15], []⟩ impl_nameOk_4_sv impl_nameOk_4_so (ByteArray × Int) (Int) impl_nameOk_4_emb impl_nameOk_4_prj (impl_nameOk_4_b n)
noncomputable def impl_nameOk_4_c : Code := ((loopCodes impl_nameOk_code)[0]?).getD .skip
def impl_nameOk_ann : Ann := fun id => bif Nat.beq id 3000004 then some ⟨[], [], []⟩ else bif Nat.beq id 2000004 then some ⟨[], [2], []⟩ else none
def impl_nameOk_Ls (n : Nat) : Nat → Option (LSpec T) := fun id => bif Nat.beq id 4 then some (impl_nameOk_4_sp n) else none
theorem impl_nameOk_4_le (n : Nat) : LoopEq (T := T) (Phi n 51) (impl_nameOk_Ls n) impl_nameOk_ann n impl_nameOk_4_c (impl_nameOk_4_sp n) := ⟨mkSpec_dec (fun y => rfl), fun c x => by kernel_rfl, fun K J c x => by kernel_rfl⟩
theorem impl_nameOk_tie (n : Nat) (s0 : ByteArray) : evF (T := T) (Phi n 51) (impl_nameOk_Ls n) impl_nameOk_ann n Try.f115 (sg 115) [vA T 9 s0] impl_nameOk_dec = impl_nameOk n s0 := by kernel_rfl
theorem impl_nameOk_lo (n : Nat) : LoopsOk (T := T) (Phi n 51) (impl_nameOk_Ls n) impl_nameOk_ann n impl_nameOk_code := loopsOk_all (cs := [impl_nameOk_4_c]) (by kernel_rfl) ⟨⟨_, by kernel_rfl, impl_nameOk_4_le n⟩, trivial⟩
theorem impl_nameOk_ok (n : Nat) : EntOk Try.prog (ents n) (impl_nameOk_ent n) := by
  intro hs ar y hg h
  replace h : impl_nameOk_D n ar = some y := h
  unfold impl_nameOk_D at h
  replace h := ocons_some h
  obtain ⟨a0, r0, rfl, h⟩ := h
  replace h := onil_some h
  obtain ⟨rfl, h⟩ := h
  obtain ⟨s0, qh0, h⟩ := obind_some h
  rw [argV_eq ok qh0]
  exact call_of (phiE_nat _ _) hs ok mixed Try.func115 (c := impl_nameOk_code) (by kernel_rfl) (impl_nameOk_lo n) (by kernel_rfl) (by kernel_rfl) (by kernel_rfl) impl_nameOk_de ((impl_nameOk_tie n s0).trans h)
noncomputable def impl_emptyOrName_code : Code := match Try.f116.body with | some c => c | none => .skip
def impl_emptyOrName_ann : Ann := fun id => none
def impl_emptyOrName_Ls (n : Nat) : Nat → Option (LSpec T) := fun id => none
theorem impl_emptyOrName_tie (n : Nat) (s0 : ByteArray) : evF (T := T) (Phi n 52) (impl_emptyOrName_Ls n) impl_emptyOrName_ann n Try.f116 (sg 116) [vA T 9 s0] impl_emptyOrName_dec = impl_emptyOrName n s0 := by kernel_rfl
theorem impl_emptyOrName_lo (n : Nat) : LoopsOk (T := T) (Phi n 52) (impl_emptyOrName_Ls n) impl_emptyOrName_ann n impl_emptyOrName_code := loopsOk_all (cs := []) (by kernel_rfl) trivial
theorem impl_emptyOrName_ok (n : Nat) : EntOk Try.prog (ents n) (impl_emptyOrName_ent n) := by
  intro hs ar y hg h
  replace h : impl_emptyOrName_D n ar = some y := h
  unfold impl_emptyOrName_D at h
  replace h := ocons_some h
  obtain ⟨a0, r0, rfl, h⟩ := h
  replace h := onil_some h
  obtain ⟨rfl, h⟩ := h
  obtain ⟨s0, qh0, h⟩ := obind_some h
  rw [argV_eq ok qh0]
  exact call_of (phiE_nat _ _) hs ok mixed Try.func116 (c := impl_emptyOrName_code) (by kernel_rfl) (impl_emptyOrName_lo n) (by kernel_rfl) (by kernel_rfl) (by kernel_rfl) impl_emptyOrName_de ((impl_emptyOrName_tie n s0).trans h)
noncomputable def impl_BookOk_1_code : Code := match Try.f130.body with | some c => c | none => .skip
def impl_BookOk_1_ann : Ann := fun id => none
def impl_BookOk_1_Ls (n : Nat) : Nat → Option (LSpec T) := fun id => none
theorem impl_BookOk_1_tie (n : Nat) (s0 : ByteArray) : evF (T := T) (Phi n 53) (impl_BookOk_1_Ls n) impl_BookOk_1_ann n Try.f130 (sg 130) [vA T 9 s0] impl_BookOk_1_dec = impl_BookOk_1 n s0 := by kernel_rfl
theorem impl_BookOk_1_lo (n : Nat) : LoopsOk (T := T) (Phi n 53) (impl_BookOk_1_Ls n) impl_BookOk_1_ann n impl_BookOk_1_code := loopsOk_all (cs := []) (by kernel_rfl) trivial
theorem impl_BookOk_1_ok (n : Nat) : EntOk Try.prog (ents n) (impl_BookOk_1_ent n) := by
  intro hs ar y hg h
  replace h : impl_BookOk_1_D n ar = some y := h
  unfold impl_BookOk_1_D at h
  replace h := ocons_some h
  obtain ⟨a0, r0, rfl, h⟩ := h
  replace h := onil_some h
  obtain ⟨rfl, h⟩ := h
  obtain ⟨s0, qh0, h⟩ := obind_some h
  rw [argV_eq ok qh0]
  exact call_of (phiE_nat _ _) hs ok mixed Try.func130 (c := impl_BookOk_1_code) (by kernel_rfl) (impl_BookOk_1_lo n) (by kernel_rfl) (by kernel_rfl) (by kernel_rfl) impl_BookOk_1_de ((impl_BookOk_1_tie n s0).trans h)
noncomputable def slices_IndexFunc_string_string__impl_BookOk_1_code : Code := match Try.f189.body with | some c => c | none => .skip
def slices_IndexFunc_string_string__impl_BookOk_1_2_sv : List Sv := [.one (.arr 9), .one (.fn 130 []), .one (.int .i64), .one (.int .i64)]
def slices_IndexFunc_string_string__impl_BookOk_1_2_so : List So := []
def slices_IndexFunc_string_string__impl_BookOk_1_2_emb (c : List ByteArray × Int) (x : Int) : EVs T slices_IndexFunc_string_string__impl_BookOk_1_2_sv × EOs T slices_IndexFunc_string_string__impl_BookOk_1_2_so := ((c.1, (), c.2, x, ()), ())
def slices_IndexFunc_string_string__impl_BookOk_1_2_prj (y : EVs T slices_IndexFunc_string_string__impl_BookOk_1_2_sv × EOs T slices_IndexFunc_string_string__impl_BookOk_1_2_so) : (List ByteArray × Int) × Int := ((y.1.1, y.1.2.2.1), (y.1.2.2.2.1))
def slices_IndexFunc_string_string__impl_BookOk_1_2_b (n : Nat) {R : Type} (K : Ex → Sm.St T → Option R) (c : List ByteArray × Int) (x : Int) (J : Int → Option R) : Option R :=
  slices_IndexFunc_string_string__impl_BookOk_1_L2 n (K (.exit 0) (stOf (T := T) [] [] [] [] () ())) (fun (y0 : Int) => K .ret (stOf (T := T) [4] [] [.one (.int .i64)] [] (y0, ()) ())) J c.1 c.2 x
def slices_IndexFunc_string_string__impl_BookOk_1_2_sp (n : Nat) : LSpec T := mkSpec T ⟨[], [0, 1, 7, 8], []⟩ slices_IndexFunc_string_string__impl_BookOk_1_2_sv slices_IndexFunc_string_string__impl_BookOk_1_2_so (List ByteArray × Int) (Int) slices_IndexFunc_string_string__impl_BookOk_1_2_emb slices_IndexFunc_string_string__impl_BookOk_1_2_prj (slices_IndexFunc_string_string__impl_BookOk_1_2_b n)
noncomputable def slices_IndexFunc_string_string__impl_BookOk_1_2_c : Code := ((loopCodes slices_IndexFunc_string_string__impl_BookOk_1_code)[0]?).getD .skip
def slices_IndexFunc_string_string__impl_BookOk_1_ann : Ann := fun id => bif Nat.beq id 3000002 then some ⟨[], [], []⟩ else bif Nat.beq id 2000002 then some ⟨[], [4], []⟩ else none
def slices_IndexFunc_string_string__impl_BookOk_1_Ls (n : Nat) : Nat → Option (LSpec T) := fun id => bif Nat.beq id 2 then some (slices_IndexFunc_string_string__impl_BookOk_1_2_sp n) else none
theorem slices_IndexFunc_string_string__impl_BookOk_1_2_le (n : Nat) : LoopEq (T := T) (Phi n 54) (slices_IndexFunc_string_string__impl_BookOk_1_Ls n) slices_IndexFunc_string_string__impl_BookOk_1_ann n slices_IndexFunc_string_string__impl_BookOk_1_2_c (slices_IndexFunc_string_string__impl_BookOk_1_2_sp n) := ⟨mkSpec_dec (fun y => rfl), fun c x => by kernel_rfl, fun K J c x => by kernel_rfl⟩
theorem slices_IndexFunc_string_string__impl_BookOk_1_tie (n : Nat) (s0 : List ByteArray) : evF (T := T) (Phi n 54) (slices_IndexFunc_string_string__impl_BookOk_1_Ls n) slices_IndexFunc_string_string__impl_BookOk_1_ann n Try.f189 (sg 189) [vA T 77 s0, .fn 130 []] slices_IndexFunc_string_string__impl_BookOk_1_dec = slices_IndexFunc_string_string__impl_BookOk_1 n s0 := by kernel_rfl
theorem slices_IndexFunc_string_string__impl_BookOk_1_lo (n : Nat) : LoopsOk (T := T) (Phi n 54) (slices_IndexFunc_string_string__impl_BookOk_1_Ls n) slices_IndexFunc_string_string__impl_BookOk_1_ann n slices_IndexFunc_string_string__impl_BookOk_1_code := loopsOk_all (cs := [slices_IndexFunc_string_string__impl_BookOk_1_2_c]) (by kernel_rfl) ⟨⟨_, by kernel_rfl, slices_IndexFunc_string_string__impl_BookOk_1_2_le n⟩, trivial⟩
theorem slices_IndexFunc_string_string__impl_BookOk_1_ok (n : Nat) : EntOk Try.prog (ents n) (slices_IndexFunc_string_string__impl_BookOk_1_ent n) := by
  intro hs ar y hg h
  replace h : slices_IndexFunc_string_string__impl_BookOk_1_D n ar = some y := h
  unfold slices_IndexFunc_string_string__impl_BookOk_1_D at h
  split at h
  · obtain ⟨s0, qh0, h⟩ := obind_some h
    rw [argV_eq ok qh0] at hg ⊢
    cases (show [_] = [130] from natsEq_eq hg)
    exact call_of (phiE_nat _ _) hs ok mixed Try.func189 (c := slices_IndexFunc_string_string__impl_BookOk_1_code) (by kernel_rfl) (slices_IndexFunc_string_string__impl_BookOk_1_lo n) (by kernel_rfl) (by kernel_rfl) (by kernel_rfl) slices_IndexFunc_string_string__impl_BookOk_1_de ((slices_IndexFunc_string_string__impl_BookOk_1_tie n s0).trans h)
  · cases h
noncomputable def slices_ContainsFunc_string_string__impl_BookOk_1_code : Code := match Try.f121.body with | some c => c | none => .skip
def slices_ContainsFunc_string_string__impl_BookOk_1_ann : Ann := fun id => none
def slices_ContainsFunc_string_string__impl_BookOk_1_Ls (n : Nat) : Nat → Option (LSpec T) := fun id => none
theorem slices_ContainsFunc_string_string__impl_BookOk_1_tie (n : Nat) (s0 : List ByteArray) : evF (T := T) (Phi n 55) (slices_ContainsFunc_string_string__impl_BookOk_1_Ls n) slices_ContainsFunc_string_string__impl_BookOk_1_ann n Try.f121 (sg 121) [vA T 77 s0, .fn 130 []] slices_ContainsFunc_string_string__impl_BookOk_1_dec = slices_ContainsFunc_string_string__impl_BookOk_1 n s0 := by kernel_rfl
theorem slices_ContainsFunc_string_string__impl_BookOk_1_lo (n : Nat) : LoopsOk (T := T) (Phi n 55) (slices_ContainsFunc_string_string__impl_BookOk_1_Ls n) slices_ContainsFunc_string_string__impl_BookOk_1_ann n slices_ContainsFunc_string_string__impl_BookOk_1_code := loopsOk_all (cs := []) (by kernel_rfl) trivial
theorem slices_ContainsFunc_string_string__impl_BookOk_1_ok (n : Nat) : EntOk Try.prog (ents n) (slices_ContainsFunc_string_string__impl_BookOk_1_ent n) := by
  intro hs ar y hg h
  replace h : slices_ContainsFunc_string_string__impl_BookOk_1_D n ar = some y := h
  unfold slices_ContainsFunc_string_string__impl_BookOk_1_D at h
  split at h
  · obtain ⟨s0, qh0, h⟩ := obind_some h
    rw [argV_eq ok qh0] at hg ⊢
    cases (show [_] = [130] from natsEq_eq hg)
    exact call_of (phiE_nat _ _) hs ok mixed Try.func121 (c := slices_ContainsFunc_string_string__impl_BookOk_1_code) (by kernel_rfl) (slices_ContainsFunc_string_string__impl_BookOk_1_lo n) (by kernel_rfl) (by kernel_rfl) (by kernel_rfl) slices_ContainsFunc_string_string__impl_BookOk_1_de ((slices_ContainsFunc_string_string__impl_BookOk_1_tie n s0).trans h)
  · cases h
noncomputable def impl_BookOk_code : Code := match Try.f44.body with | some c => c | none => .skip
def impl_BookOk_5_sv : List Sv := [.one (.ptr 8 0 0), .one (.map 96), .one (.arr 79), .one (.int .i64), .one (.int .i64)]
def impl_BookOk_5_so : List So := [.var [.arr 79, .arr 3], .map 3 4]
def impl_BookOk_5_emb (c : List SBill × Int × SBook) (x : Int × (List (Int × Bool))) : EVs T impl_BookOk_5_sv × EOs T impl_BookOk_5_so := (((), (), c.1, c.2.1, x.1, ()), ((c.2.2.Bills, c.2.2.Freed, ()), x.2, ()))
def impl_BookOk_5_prj (y : EVs T impl_BookOk_5_sv × EOs T impl_BookOk_5_so) : (List SBill × Int × SBook) × (Int × (List (Int × Bool))) := ((y.1.2.2.1, y.1.2.2.2.1, ((⟨y.2.1.1, y.2.1.2.1⟩ : SBook) : SBook)), (y.1.2.2.2.2.1, y.2.2.1))
def impl_BookOk_5_b (n : Nat) {R : Type} (K : Ex → Sm.St T → Option R) (c : List SBill × Int × SBook) (x : Int × (List (Int × Bool))) (J : (Int × (List (Int × Bool))) → Option R) : Option R :=
  impl_BookOk_L5 n (fun (y1 : List (Int × Bool)) => K (.exit 0) (stOf (T := T) [1, 3] [8, 96] [.one (.ptr 8 0 0), .one (.map 96)] [.var [.arr 79, .arr 3], .map 3 4] ((), (), ()) ((c.2.2.Bills, c.2.2.Freed, ()), y1, ()))) (fun (y0 : Bool) => K .ret (stOf (T := T) [2] [] [.one (.bool)] [] (y0, ()) ())) (fun z0 z1 => J (z0, z1)) c.1 c.2.1 x.1 c.2.2 x.2
def impl_BookOk_5_sp (n : Nat) : LSpec T := mkSpec T ⟨[], [1, 3, 14, 15, 16], [8, 96]⟩ impl_BookOk_5_sv impl_BookOk_5_so (List SBill × Int × SBook) (Int × (List (Int × Bool))) impl_BookOk_5_emb impl_BookOk_5_prj (impl_BookOk_5_b n)
noncomputable def impl_BookOk_5_c : Code := ((loopCodes impl_BookOk_code)[0]?).getD .skip
def impl_BookOk_12_sv : List Sv := [.one (.ptr 8 0 0), .one (.map 96), .one (.arr 3), .one (.int .i64), .one (.int .i64)]
def impl_BookOk_12_so : List So := [.var [.arr 79, .arr 3], .map 3 4]
def impl_BookOk_12_emb (c : List Int × Int × SBook × (List (Int × Bool))) (x : Int) : EVs T impl_BookOk_12_sv × EOs T impl_BookOk_12_so := (((), (), c.1, c.2.1, x, ()), ((c.2.2.1.Bills, c.2.2.1.Freed, ()), c.2.2.2, ()))
def impl_BookOk_12_prj (y : EVs T impl_BookOk_12_sv × EOs T impl_BookOk_12_so) : (List Int × Int × SBook × (List (Int × Bool))) × Int := ((y.1.2.2.1, y.1.2.2.2.1, ((⟨y.2.1.1, y.2.1.2.1⟩ : SBook) : SBook), y.2.2.1), (y.1.2.2.2.2.1))
def impl_BookOk_12_b (n : Nat) {R : Type} (K : Ex → Sm.St T → Option R) (c : List Int × Int × SBook × (List (Int × Bool))) (x : Int) (J : Int → Option R) : Option R :=
  impl_BookOk_L12 n (K (.exit 2) (stOf (T := T) [] [] [] [] () ())) (fun (y0 : Bool) => K .ret (stOf (T := T) [2] [] [.one (.bool)] [] (y0, ()) ())) J c.1 c.2.1 x c.2.2.1 c.2.2.2
def impl_BookOk_12_sp (n : Nat) : LSpec T := mkSpec T ⟨[], [1, 3, 77, 78, 79], [8, 96]⟩ impl_BookOk_12_sv impl_BookOk_12_so (List Int × Int × SBook × (List (Int × Bool))) (Int) impl_BookOk_12_emb impl_BookOk_12_prj (impl_BookOk_12_b n)
noncomputable def impl_BookOk_12_c : Code := ((loopCodes impl_BookOk_code)[1]?).getD .skip
def impl_BookOk_ann : Ann := fun id => bif Nat.beq id 3000005 then some ⟨[], [1, 3], [8, 96]⟩ else bif Nat.beq id 2000005 then some ⟨[], [2], []⟩ else bif Nat.beq id 5000012 then some ⟨[], [], []⟩ else bif Nat.beq id 2000012 then some ⟨[], [2], []⟩ else none
def impl_BookOk_Ls (n : Nat) : Nat → Option (LSpec T) := fun id => bif Nat.beq id 5 then some (impl_BookOk_5_sp n) else bif Nat.beq id 12 then some (impl_BookOk_12_sp n) else none
theorem impl_BookOk_5_le (n : Nat) : LoopEq (T := T) (Phi n 56) (impl_BookOk_Ls n) impl_BookOk_ann n impl_BookOk_5_c (impl_BookOk_5_sp n) := ⟨mkSpec_dec (fun y => rfl), fun c x => by kernel_rfl, fun K J c x => by kernel_rfl⟩
theorem impl_BookOk_12_le (n : Nat) : LoopEq (T := T) (Phi n 56) (impl_BookOk_Ls n) impl_BookOk_ann n impl_BookOk_12_c (impl_BookOk_12_sp n) := ⟨mkSpec_dec (fun y => rfl), fun c x => by kernel_rfl, fun K J c x => by kernel_rfl⟩
theorem impl_BookOk_tie (n : Nat) (b0 : SBook) : evF (T := T) (Phi n 56) (impl_BookOk_Ls n) impl_BookOk_ann n Try.f44 (sg 44) [vA T 31 b0] impl_BookOk_dec = impl_BookOk n b0 := by kernel_rfl
theorem impl_BookOk_lo (n : Nat) : LoopsOk (T := T) (Phi n 56) (impl_BookOk_Ls n) impl_BookOk_ann n impl_BookOk_code := loopsOk_all (cs := [impl_BookOk_5_c, impl_BookOk_12_c]) (by kernel_rfl) ⟨⟨_, by kernel_rfl, impl_BookOk_5_le n⟩, ⟨_, by kernel_rfl, impl_BookOk_12_le n⟩, trivial⟩
theorem impl_BookOk_ok (n : Nat) : EntOk Try.prog (ents n) (impl_BookOk_ent n) := by
  intro hs ar y hg h
  replace h : impl_BookOk_D n ar = some y := h
  unfold impl_BookOk_D at h
  replace h := ocons_some h
  obtain ⟨a0, r0, rfl, h⟩ := h
  replace h := onil_some h
  obtain ⟨rfl, h⟩ := h
  obtain ⟨b0, qh0, h⟩ := obind_some h
  rw [argV_eq ok qh0]
  exact call_of (phiE_nat _ _) hs ok mixed Try.func44 (c := impl_BookOk_code) (by kernel_rfl) (impl_BookOk_lo n) (by kernel_rfl) (by kernel_rfl) (by kernel_rfl) impl_BookOk_de ((impl_BookOk_tie n b0).trans h)
noncomputable def impl_lotRight_code : Code := match Try.f142.body with | some c => c | none => .skip
def impl_lotRight_ann : Ann := fun id => none
def impl_lotRight_Ls (n : Nat) : Nat → Option (LSpec T) := fun id => none
theorem impl_lotRight_tie (n : Nat) (many0 : Int) (value1 : Int) (rate2 : Int) : evF (T := T) (Phi n 57) (impl_lotRight_Ls n) impl_lotRight_ann n Try.f142 (sg 142) [vA T 3 many0, vA T 3 value1, vA T 3 rate2] impl_lotRight_dec = impl_lotRight n many0 value1 rate2 := by kernel_rfl
theorem impl_lotRight_lo (n : Nat) : LoopsOk (T := T) (Phi n 57) (impl_lotRight_Ls n) impl_lotRight_ann n impl_lotRight_code := loopsOk_all (cs := []) (by kernel_rfl) trivial
theorem impl_lotRight_ok (n : Nat) : EntOk Try.prog (ents n) (impl_lotRight_ent n) := by
  intro hs ar y hg h
  replace h : impl_lotRight_D n ar = some y := h
  unfold impl_lotRight_D at h
  replace h := ocons_some h
  obtain ⟨a0, r0, rfl, h⟩ := h
  replace h := ocons_some h
  obtain ⟨a1, r1, rfl, h⟩ := h
  replace h := ocons_some h
  obtain ⟨a2, r2, rfl, h⟩ := h
  replace h := onil_some h
  obtain ⟨rfl, h⟩ := h
  obtain ⟨many0, qh0, h⟩ := obind_some h
  obtain ⟨value1, qh1, h⟩ := obind_some h
  obtain ⟨rate2, qh2, h⟩ := obind_some h
  rw [argV_eq ok qh0, argV_eq ok qh1, argV_eq ok qh2]
  exact call_of (phiE_nat _ _) hs ok mixed Try.func142 (c := impl_lotRight_code) (by kernel_rfl) (impl_lotRight_lo n) (by kernel_rfl) (by kernel_rfl) (by kernel_rfl) impl_lotRight_de ((impl_lotRight_tie n many0 value1 rate2).trans h)
noncomputable def impl_Duty6_code : Code := match Try.f64.body with | some c => c | none => .skip
def impl_Duty6_ann : Ann := fun id => none
def impl_Duty6_Ls (n : Nat) : Nat → Option (LSpec T) := fun id => none
theorem impl_Duty6_tie (n : Nat) (many0 : Int) (value1 : Int) (rate2 : Int) : evF (T := T) (Phi n 58) (impl_Duty6_Ls n) impl_Duty6_ann n Try.f64 (sg 64) [vA T 3 many0, vA T 3 value1, vA T 3 rate2] impl_Duty6_dec = impl_Duty6 n many0 value1 rate2 := by kernel_rfl
theorem impl_Duty6_lo (n : Nat) : LoopsOk (T := T) (Phi n 58) (impl_Duty6_Ls n) impl_Duty6_ann n impl_Duty6_code := loopsOk_all (cs := []) (by kernel_rfl) trivial
theorem impl_Duty6_ok (n : Nat) : EntOk Try.prog (ents n) (impl_Duty6_ent n) := by
  intro hs ar y hg h
  replace h : impl_Duty6_D n ar = some y := h
  unfold impl_Duty6_D at h
  replace h := ocons_some h
  obtain ⟨a0, r0, rfl, h⟩ := h
  replace h := ocons_some h
  obtain ⟨a1, r1, rfl, h⟩ := h
  replace h := ocons_some h
  obtain ⟨a2, r2, rfl, h⟩ := h
  replace h := onil_some h
  obtain ⟨rfl, h⟩ := h
  obtain ⟨many0, qh0, h⟩ := obind_some h
  obtain ⟨value1, qh1, h⟩ := obind_some h
  obtain ⟨rate2, qh2, h⟩ := obind_some h
  rw [argV_eq ok qh0, argV_eq ok qh1, argV_eq ok qh2]
  exact call_of (phiE_nat _ _) hs ok mixed Try.func64 (c := impl_Duty6_code) (by kernel_rfl) (impl_Duty6_lo n) (by kernel_rfl) (by kernel_rfl) (by kernel_rfl) impl_Duty6_de ((impl_Duty6_tie n many0 value1 rate2).trans h)
noncomputable def impl_Lot_duty_code : Code := match Try.f146.body with | some c => c | none => .skip
def impl_Lot_duty_ann : Ann := fun id => none
def impl_Lot_duty_Ls (n : Nat) : Nat → Option (LSpec T) := fun id => none
theorem impl_Lot_duty_tie (n : Nat) (l0 : SLot) : evF (T := T) (Phi n 59) (impl_Lot_duty_Ls n) impl_Lot_duty_ann n Try.f146 (sg 146) [vA T 116 l0] impl_Lot_duty_dec = impl_Lot_duty n l0 := by kernel_rfl
theorem impl_Lot_duty_lo (n : Nat) : LoopsOk (T := T) (Phi n 59) (impl_Lot_duty_Ls n) impl_Lot_duty_ann n impl_Lot_duty_code := loopsOk_all (cs := []) (by kernel_rfl) trivial
theorem impl_Lot_duty_ok (n : Nat) : EntOk Try.prog (ents n) (impl_Lot_duty_ent n) := by
  intro hs ar y hg h
  replace h : impl_Lot_duty_D n ar = some y := h
  unfold impl_Lot_duty_D at h
  replace h := ocons_some h
  obtain ⟨a0, r0, rfl, h⟩ := h
  replace h := onil_some h
  obtain ⟨rfl, h⟩ := h
  obtain ⟨l0, qh0, h⟩ := obind_some h
  rw [argV_eq ok qh0]
  exact call_of (phiE_nat _ _) hs ok mixed Try.func146 (c := impl_Lot_duty_code) (by kernel_rfl) (impl_Lot_duty_lo n) (by kernel_rfl) (by kernel_rfl) (by kernel_rfl) impl_Lot_duty_de ((impl_Lot_duty_tie n l0).trans h)
noncomputable def impl_HouseOk_code : Code := match Try.f63.body with | some c => c | none => .skip
def impl_HouseOk_5_sv : List Sv := [.one (.ptr 8 0 0), .one (.own 3000000 3 false), .one (.arr 116), .one (.int .i64), .one (.int .i64)]
def impl_HouseOk_5_so : List So := [.var [.arr 116, .arr 114, .int .i64], .arr 3 false]
def impl_HouseOk_5_emb (c : List SLot × Int × SHouse) (x : Int × List Int) : EVs T impl_HouseOk_5_sv × EOs T impl_HouseOk_5_so := (((), (), c.1, c.2.1, x.1, ()), ((c.2.2.Lots, c.2.2.Traders, c.2.2.Taken, ()), x.2, ()))
def impl_HouseOk_5_prj (y : EVs T impl_HouseOk_5_sv × EOs T impl_HouseOk_5_so) : (List SLot × Int × SHouse) × (Int × List Int) := ((y.1.2.2.1, y.1.2.2.2.1, ((⟨y.2.1.1, y.2.1.2.1, y.2.1.2.2.1⟩ : SHouse) : SHouse)), (y.1.2.2.2.2.1, y.2.2.1))
def impl_HouseOk_5_b (n : Nat) {R : Type} (K : Ex → Sm.St T → Option R) (c : List SLot × Int × SHouse) (x : Int × List Int) (J : (Int × List Int) → Option R) : Option R :=
  impl_HouseOk_L5 n (fun (y1 : List Int) => K (.exit 0) (stOf (T := T) [1, 3] [8, 3000000] [.one (.ptr 8 0 0), .one (.own 3000000 3 false)] [.var [.arr 116, .arr 114, .int .i64], .arr 3 false] ((), (), ()) ((c.2.2.Lots, c.2.2.Traders, c.2.2.Taken, ()), y1, ()))) (fun (y0 : Bool) => K .ret (stOf (T := T) [2] [] [.one (.bool)] [] (y0, ()) ())) (fun z0 z1 => J (z0, z1)) c.1 c.2.1 x.1 c.2.2 x.2
def impl_HouseOk_5_sp (n : Nat) : LSpec T := mkSpec T ⟨[((.reg 3), 3000000, 3)], [1, 3, 30, 31, 32], [8, 3000000]⟩ impl_HouseOk_5_sv impl_HouseOk_5_so (List SLot × Int × SHouse) (Int × List Int) impl_HouseOk_5_emb impl_HouseOk_5_prj (impl_HouseOk_5_b n)
noncomputable def impl_HouseOk_5_c : Code := ((loopCodes impl_HouseOk_code)[0]?).getD .skip
def impl_HouseOk_17_sv : List Sv := [.one (.own 3000000 3 false), .one (.arr 114), .one (.int .i64), .one (.int .i64)]
def impl_HouseOk_17_so : List So := [.arr 3 false]
def impl_HouseOk_17_emb (c : List STrader × Int × List Int) (x : Int) : EVs T impl_HouseOk_17_sv × EOs T impl_HouseOk_17_so := (((), c.1, c.2.1, x, ()), (c.2.2, ()))
def impl_HouseOk_17_prj (y : EVs T impl_HouseOk_17_sv × EOs T impl_HouseOk_17_so) : (List STrader × Int × List Int) × Int := ((y.1.2.1, y.1.2.2.1, y.2.1), (y.1.2.2.2.1))
def impl_HouseOk_17_b (n : Nat) {R : Type} (K : Ex → Sm.St T → Option R) (c : List STrader × Int × List Int) (x : Int) (J : Int → Option R) : Option R :=
  impl_HouseOk_L17 n (K (.exit 2) (stOf (T := T) [] [] [] [] () ())) (fun (y0 : Bool) => K .ret (stOf (T := T) [2] [] [.one (.bool)] [] (y0, ()) ())) J c.1 c.2.1 x c.2.2
def impl_HouseOk_17_sp (n : Nat) : LSpec T := mkSpec T ⟨[((.reg 3), 3000000, 3)], [3, 103, 104, 105], [3000000]⟩ impl_HouseOk_17_sv impl_HouseOk_17_so (List STrader × Int × List Int) (Int) impl_HouseOk_17_emb impl_HouseOk_17_prj (impl_HouseOk_17_b n)
noncomputable def impl_HouseOk_17_c : Code := ((loopCodes impl_HouseOk_code)[1]?).getD .skip
def impl_HouseOk_ann : Ann := fun id => bif Nat.beq id 3000005 then some ⟨[((.reg 3), 3000000, 3)], [1, 3], [8, 3000000]⟩ else bif Nat.beq id 2000005 then some ⟨[], [2], []⟩ else bif Nat.beq id 5000017 then some ⟨[], [], []⟩ else bif Nat.beq id 2000017 then some ⟨[], [2], []⟩ else none
def impl_HouseOk_Ls (n : Nat) : Nat → Option (LSpec T) := fun id => bif Nat.beq id 5 then some (impl_HouseOk_5_sp n) else bif Nat.beq id 17 then some (impl_HouseOk_17_sp n) else none
theorem impl_HouseOk_5_le (n : Nat) : LoopEq (T := T) (Phi n 60) (impl_HouseOk_Ls n) impl_HouseOk_ann n impl_HouseOk_5_c (impl_HouseOk_5_sp n) := ⟨mkSpec_dec (fun y => rfl), fun c x => by kernel_rfl, fun K J c x => by kernel_rfl⟩
theorem impl_HouseOk_17_le (n : Nat) : LoopEq (T := T) (Phi n 60) (impl_HouseOk_Ls n) impl_HouseOk_ann n impl_HouseOk_17_c (impl_HouseOk_17_sp n) := ⟨mkSpec_dec (fun y => rfl), fun c x => by kernel_rfl, fun K J c x => by kernel_rfl⟩
theorem impl_HouseOk_tie (n : Nat) (h0 : SHouse) : evF (T := T) (Phi n 60) (impl_HouseOk_Ls n) impl_HouseOk_ann n Try.f63 (sg 63) [vA T 92 h0] impl_HouseOk_dec = impl_HouseOk n h0 := by kernel_rfl
theorem impl_HouseOk_lo (n : Nat) : LoopsOk (T := T) (Phi n 60) (impl_HouseOk_Ls n) impl_HouseOk_ann n impl_HouseOk_code := loopsOk_all (cs := [impl_HouseOk_5_c, impl_HouseOk_17_c]) (by kernel_rfl) ⟨⟨_, by kernel_rfl, impl_HouseOk_5_le n⟩, ⟨_, by kernel_rfl, impl_HouseOk_17_le n⟩, trivial⟩
theorem impl_HouseOk_ok (n : Nat) : EntOk Try.prog (ents n) (impl_HouseOk_ent n) := by
  intro hs ar y hg h
  replace h : impl_HouseOk_D n ar = some y := h
  unfold impl_HouseOk_D at h
  replace h := ocons_some h
  obtain ⟨a0, r0, rfl, h⟩ := h
  replace h := onil_some h
  obtain ⟨rfl, h⟩ := h
  obtain ⟨h0, qh0, h⟩ := obind_some h
  rw [argV_eq ok qh0]
  exact call_of (phiE_nat _ _) hs ok mixed Try.func63 (c := impl_HouseOk_code) (by kernel_rfl) (impl_HouseOk_lo n) (by kernel_rfl) (by kernel_rfl) (by kernel_rfl) impl_HouseOk_de ((impl_HouseOk_tie n h0).trans h)
noncomputable def impl_PortOk_code : Code := match Try.f80.body with | some c => c | none => .skip
def impl_PortOk_ann : Ann := fun id => none
def impl_PortOk_Ls (n : Nat) : Nat → Option (LSpec T) := fun id => none
theorem impl_PortOk_tie (n : Nat) (p0 : SPort) : evF (T := T) (Phi n 61) (impl_PortOk_Ls n) impl_PortOk_ann n Try.f80 (sg 80) [vA T 140 p0] impl_PortOk_dec = impl_PortOk n p0 := by kernel_rfl
theorem impl_PortOk_lo (n : Nat) : LoopsOk (T := T) (Phi n 61) (impl_PortOk_Ls n) impl_PortOk_ann n impl_PortOk_code := loopsOk_all (cs := []) (by kernel_rfl) trivial
theorem impl_PortOk_ok (n : Nat) : EntOk Try.prog (ents n) (impl_PortOk_ent n) := by
  intro hs ar y hg h
  replace h : impl_PortOk_D n ar = some y := h
  unfold impl_PortOk_D at h
  replace h := ocons_some h
  obtain ⟨a0, r0, rfl, h⟩ := h
  replace h := onil_some h
  obtain ⟨rfl, h⟩ := h
  obtain ⟨p0, qh0, h⟩ := obind_some h
  rw [argV_eq ok qh0]
  exact call_of (phiE_nat _ _) hs ok mixed Try.func80 (c := impl_PortOk_code) (by kernel_rfl) (impl_PortOk_lo n) (by kernel_rfl) (by kernel_rfl) (by kernel_rfl) impl_PortOk_de ((impl_PortOk_tie n p0).trans h)
noncomputable def laws_eqCall_code : Code := match Try.f171.body with | some c => c | none => .skip
def laws_eqCall_ann : Ann := fun id => none
def laws_eqCall_Ls (n : Nat) : Nat → Option (LSpec T) := fun id => none
theorem laws_eqCall_tie (n : Nat) (a0 : SCall) (b1 : SCall) : evF (T := T) (Phi n 62) (laws_eqCall_Ls n) laws_eqCall_ann n Try.f171 (sg 171) [vA T 126 a0, vA T 126 b1] laws_eqCall_dec = laws_eqCall n a0 b1 := by kernel_rfl
theorem laws_eqCall_lo (n : Nat) : LoopsOk (T := T) (Phi n 62) (laws_eqCall_Ls n) laws_eqCall_ann n laws_eqCall_code := loopsOk_all (cs := []) (by kernel_rfl) trivial
theorem laws_eqCall_ok (n : Nat) : EntOk Try.prog (ents n) (laws_eqCall_ent n) := by
  intro hs ar y hg h
  replace h : laws_eqCall_D n ar = some y := h
  unfold laws_eqCall_D at h
  replace h := ocons_some h
  obtain ⟨a0, r0, rfl, h⟩ := h
  replace h := ocons_some h
  obtain ⟨a1, r1, rfl, h⟩ := h
  replace h := onil_some h
  obtain ⟨rfl, h⟩ := h
  obtain ⟨a0, qh0, h⟩ := obind_some h
  obtain ⟨b1, qh1, h⟩ := obind_some h
  rw [argV_eq ok qh0, argV_eq ok qh1]
  exact call_of (phiE_nat _ _) hs ok mixed Try.func171 (c := laws_eqCall_code) (by kernel_rfl) (laws_eqCall_lo n) (by kernel_rfl) (by kernel_rfl) (by kernel_rfl) laws_eqCall_de ((laws_eqCall_tie n a0 b1).trans h)
noncomputable def laws_eqCallS_code : Code := match Try.f74.body with | some c => c | none => .skip
def laws_eqCallS_4_sv : List Sv := [.one (.arr 126), .one (.arr 126), .one (.int .i64)]
def laws_eqCallS_4_so : List So := []
def laws_eqCallS_4_emb (c : List SCall × List SCall) (x : Int) : EVs T laws_eqCallS_4_sv × EOs T laws_eqCallS_4_so := ((c.1, c.2, x, ()), ())
def laws_eqCallS_4_prj (y : EVs T laws_eqCallS_4_sv × EOs T laws_eqCallS_4_so) : (List SCall × List SCall) × Int := ((y.1.1, y.1.2.1), (y.1.2.2.1))
def laws_eqCallS_4_b (n : Nat) {R : Type} (K : Ex → Sm.St T → Option R) (c : List SCall × List SCall) (x : Int) (J : Int → Option R) : Option R :=
  laws_eqCallS_L4 n (K (.exit 0) (stOf (T := T) [] [] [] [] () ())) (fun (y0 : Bool) => K .ret (stOf (T := T) [4] [] [.one (.bool)] [] (y0, ()) ())) J c.1 c.2 x
def laws_eqCallS_4_sp (n : Nat) : LSpec T := mkSpec T ⟨[], [0, 1, 5], []⟩ laws_eqCallS_4_sv laws_eqCallS_4_so (List SCall × List SCall) (Int) laws_eqCallS_4_emb laws_eqCallS_4_prj (laws_eqCallS_4_b n)
noncomputable def laws_eqCallS_4_c : Code := ((loopCodes laws_eqCallS_code)[0]?).getD .skip
def laws_eqCallS_ann : Ann := fun id => bif Nat.beq id 3000004 then some ⟨[], [], []⟩ else bif Nat.beq id 2000004 then some ⟨[], [4], []⟩ else none
def laws_eqCallS_Ls (n : Nat) : Nat → Option (LSpec T) := fun id => bif Nat.beq id 4 then some (laws_eqCallS_4_sp n) else none
theorem laws_eqCallS_4_le (n : Nat) : LoopEq (T := T) (Phi n 63) (laws_eqCallS_Ls n) laws_eqCallS_ann n laws_eqCallS_4_c (laws_eqCallS_4_sp n) := ⟨mkSpec_dec (fun y => rfl), fun c x => by kernel_rfl, fun K J c x => by kernel_rfl⟩
theorem laws_eqCallS_tie (n : Nat) (a0 : List SCall) (b1 : List SCall) : evF (T := T) (Phi n 63) (laws_eqCallS_Ls n) laws_eqCallS_ann n Try.f74 (sg 74) [vA T 119 a0, vA T 119 b1] laws_eqCallS_dec = laws_eqCallS n a0 b1 := by kernel_rfl
theorem laws_eqCallS_lo (n : Nat) : LoopsOk (T := T) (Phi n 63) (laws_eqCallS_Ls n) laws_eqCallS_ann n laws_eqCallS_code := loopsOk_all (cs := [laws_eqCallS_4_c]) (by kernel_rfl) ⟨⟨_, by kernel_rfl, laws_eqCallS_4_le n⟩, trivial⟩
theorem laws_eqCallS_ok (n : Nat) : EntOk Try.prog (ents n) (laws_eqCallS_ent n) := by
  intro hs ar y hg h
  replace h : laws_eqCallS_D n ar = some y := h
  unfold laws_eqCallS_D at h
  replace h := ocons_some h
  obtain ⟨a0, r0, rfl, h⟩ := h
  replace h := ocons_some h
  obtain ⟨a1, r1, rfl, h⟩ := h
  replace h := onil_some h
  obtain ⟨rfl, h⟩ := h
  obtain ⟨a0, qh0, h⟩ := obind_some h
  obtain ⟨b1, qh1, h⟩ := obind_some h
  rw [argV_eq ok qh0, argV_eq ok qh1]
  exact call_of (phiE_nat _ _) hs ok mixed Try.func74 (c := laws_eqCallS_code) (by kernel_rfl) (laws_eqCallS_lo n) (by kernel_rfl) (by kernel_rfl) (by kernel_rfl) laws_eqCallS_de ((laws_eqCallS_tie n a0 b1).trans h)
noncomputable def laws_eqIntS_code : Code := match Try.f31.body with | some c => c | none => .skip
def laws_eqIntS_4_sv : List Sv := [.one (.arr 3), .one (.arr 3), .one (.int .i64)]
def laws_eqIntS_4_so : List So := []
def laws_eqIntS_4_emb (c : List Int × List Int) (x : Int) : EVs T laws_eqIntS_4_sv × EOs T laws_eqIntS_4_so := ((c.1, c.2, x, ()), ())
def laws_eqIntS_4_prj (y : EVs T laws_eqIntS_4_sv × EOs T laws_eqIntS_4_so) : (List Int × List Int) × Int := ((y.1.1, y.1.2.1), (y.1.2.2.1))
def laws_eqIntS_4_b (n : Nat) {R : Type} (K : Ex → Sm.St T → Option R) (c : List Int × List Int) (x : Int) (J : Int → Option R) : Option R :=
  laws_eqIntS_L4 n (K (.exit 0) (stOf (T := T) [] [] [] [] () ())) (fun (y0 : Bool) => K .ret (stOf (T := T) [4] [] [.one (.bool)] [] (y0, ()) ())) J c.1 c.2 x
def laws_eqIntS_4_sp (n : Nat) : LSpec T := mkSpec T ⟨[], [0, 1, 5], []⟩ laws_eqIntS_4_sv laws_eqIntS_4_so (List Int × List Int) (Int) laws_eqIntS_4_emb laws_eqIntS_4_prj (laws_eqIntS_4_b n)
noncomputable def laws_eqIntS_4_c : Code := ((loopCodes laws_eqIntS_code)[0]?).getD .skip
def laws_eqIntS_ann : Ann := fun id => bif Nat.beq id 3000004 then some ⟨[], [], []⟩ else bif Nat.beq id 2000004 then some ⟨[], [4], []⟩ else none
def laws_eqIntS_Ls (n : Nat) : Nat → Option (LSpec T) := fun id => bif Nat.beq id 4 then some (laws_eqIntS_4_sp n) else none
theorem laws_eqIntS_4_le (n : Nat) : LoopEq (T := T) (Phi n 64) (laws_eqIntS_Ls n) laws_eqIntS_ann n laws_eqIntS_4_c (laws_eqIntS_4_sp n) := ⟨mkSpec_dec (fun y => rfl), fun c x => by kernel_rfl, fun K J c x => by kernel_rfl⟩
theorem laws_eqIntS_tie (n : Nat) (a0 : List Int) (b1 : List Int) : evF (T := T) (Phi n 64) (laws_eqIntS_Ls n) laws_eqIntS_ann n Try.f31 (sg 31) [vA T 23 a0, vA T 23 b1] laws_eqIntS_dec = laws_eqIntS n a0 b1 := by kernel_rfl
theorem laws_eqIntS_lo (n : Nat) : LoopsOk (T := T) (Phi n 64) (laws_eqIntS_Ls n) laws_eqIntS_ann n laws_eqIntS_code := loopsOk_all (cs := [laws_eqIntS_4_c]) (by kernel_rfl) ⟨⟨_, by kernel_rfl, laws_eqIntS_4_le n⟩, trivial⟩
theorem laws_eqIntS_ok (n : Nat) : EntOk Try.prog (ents n) (laws_eqIntS_ent n) := by
  intro hs ar y hg h
  replace h : laws_eqIntS_D n ar = some y := h
  unfold laws_eqIntS_D at h
  replace h := ocons_some h
  obtain ⟨a0, r0, rfl, h⟩ := h
  replace h := ocons_some h
  obtain ⟨a1, r1, rfl, h⟩ := h
  replace h := onil_some h
  obtain ⟨rfl, h⟩ := h
  obtain ⟨a0, qh0, h⟩ := obind_some h
  obtain ⟨b1, qh1, h⟩ := obind_some h
  rw [argV_eq ok qh0, argV_eq ok qh1]
  exact call_of (phiE_nat _ _) hs ok mixed Try.func31 (c := laws_eqIntS_code) (by kernel_rfl) (laws_eqIntS_lo n) (by kernel_rfl) (by kernel_rfl) (by kernel_rfl) laws_eqIntS_de ((laws_eqIntS_tie n a0 b1).trans h)
noncomputable def laws_eqIntSS_code : Code := match Try.f106.body with | some c => c | none => .skip
def laws_eqIntSS_4_sv : List Sv := [.one (.arr 23), .one (.arr 23), .one (.int .i64)]
def laws_eqIntSS_4_so : List So := []
def laws_eqIntSS_4_emb (c : List (List Int) × List (List Int)) (x : Int) : EVs T laws_eqIntSS_4_sv × EOs T laws_eqIntSS_4_so := ((c.1, c.2, x, ()), ())
def laws_eqIntSS_4_prj (y : EVs T laws_eqIntSS_4_sv × EOs T laws_eqIntSS_4_so) : (List (List Int) × List (List Int)) × Int := ((y.1.1, y.1.2.1), (y.1.2.2.1))
def laws_eqIntSS_4_b (n : Nat) {R : Type} (K : Ex → Sm.St T → Option R) (c : List (List Int) × List (List Int)) (x : Int) (J : Int → Option R) : Option R :=
  laws_eqIntSS_L4 n (K (.exit 0) (stOf (T := T) [] [] [] [] () ())) (fun (y0 : Bool) => K .ret (stOf (T := T) [4] [] [.one (.bool)] [] (y0, ()) ())) J c.1 c.2 x
def laws_eqIntSS_4_sp (n : Nat) : LSpec T := mkSpec T ⟨[], [0, 1, 5], []⟩ laws_eqIntSS_4_sv laws_eqIntSS_4_so (List (List Int) × List (List Int)) (Int) laws_eqIntSS_4_emb laws_eqIntSS_4_prj (laws_eqIntSS_4_b n)
noncomputable def laws_eqIntSS_4_c : Code := ((loopCodes laws_eqIntSS_code)[0]?).getD .skip
def laws_eqIntSS_ann : Ann := fun id => bif Nat.beq id 3000004 then some ⟨[], [], []⟩ else bif Nat.beq id 2000004 then some ⟨[], [4], []⟩ else none
def laws_eqIntSS_Ls (n : Nat) : Nat → Option (LSpec T) := fun id => bif Nat.beq id 4 then some (laws_eqIntSS_4_sp n) else none
theorem laws_eqIntSS_4_le (n : Nat) : LoopEq (T := T) (Phi n 65) (laws_eqIntSS_Ls n) laws_eqIntSS_ann n laws_eqIntSS_4_c (laws_eqIntSS_4_sp n) := ⟨mkSpec_dec (fun y => rfl), fun c x => by kernel_rfl, fun K J c x => by kernel_rfl⟩
theorem laws_eqIntSS_tie (n : Nat) (a0 : List (List Int)) (b1 : List (List Int)) : evF (T := T) (Phi n 65) (laws_eqIntSS_Ls n) laws_eqIntSS_ann n Try.f106 (sg 106) [vA T 35 a0, vA T 35 b1] laws_eqIntSS_dec = laws_eqIntSS n a0 b1 := by kernel_rfl
theorem laws_eqIntSS_lo (n : Nat) : LoopsOk (T := T) (Phi n 65) (laws_eqIntSS_Ls n) laws_eqIntSS_ann n laws_eqIntSS_code := loopsOk_all (cs := [laws_eqIntSS_4_c]) (by kernel_rfl) ⟨⟨_, by kernel_rfl, laws_eqIntSS_4_le n⟩, trivial⟩
theorem laws_eqIntSS_ok (n : Nat) : EntOk Try.prog (ents n) (laws_eqIntSS_ent n) := by
  intro hs ar y hg h
  replace h : laws_eqIntSS_D n ar = some y := h
  unfold laws_eqIntSS_D at h
  replace h := ocons_some h
  obtain ⟨a0, r0, rfl, h⟩ := h
  replace h := ocons_some h
  obtain ⟨a1, r1, rfl, h⟩ := h
  replace h := onil_some h
  obtain ⟨rfl, h⟩ := h
  obtain ⟨a0, qh0, h⟩ := obind_some h
  obtain ⟨b1, qh1, h⟩ := obind_some h
  rw [argV_eq ok qh0, argV_eq ok qh1]
  exact call_of (phiE_nat _ _) hs ok mixed Try.func106 (c := laws_eqIntSS_code) (by kernel_rfl) (laws_eqIntSS_lo n) (by kernel_rfl) (by kernel_rfl) (by kernel_rfl) laws_eqIntSS_de ((laws_eqIntSS_tie n a0 b1).trans h)
noncomputable def laws_eqYard_code : Code := match Try.f24.body with | some c => c | none => .skip
def laws_eqYard_ann : Ann := fun id => none
def laws_eqYard_Ls (n : Nat) : Nat → Option (LSpec T) := fun id => none
theorem laws_eqYard_tie (n : Nat) (a0 : SYard) (b1 : SYard) : evF (T := T) (Phi n 66) (laws_eqYard_Ls n) laws_eqYard_ann n Try.f24 (sg 24) [vA T 41 a0, vA T 41 b1] laws_eqYard_dec = laws_eqYard n a0 b1 := by kernel_rfl
theorem laws_eqYard_lo (n : Nat) : LoopsOk (T := T) (Phi n 66) (laws_eqYard_Ls n) laws_eqYard_ann n laws_eqYard_code := loopsOk_all (cs := []) (by kernel_rfl) trivial
theorem laws_eqYard_ok (n : Nat) : EntOk Try.prog (ents n) (laws_eqYard_ent n) := by
  intro hs ar y hg h
  replace h : laws_eqYard_D n ar = some y := h
  unfold laws_eqYard_D at h
  replace h := ocons_some h
  obtain ⟨a0, r0, rfl, h⟩ := h
  replace h := ocons_some h
  obtain ⟨a1, r1, rfl, h⟩ := h
  replace h := onil_some h
  obtain ⟨rfl, h⟩ := h
  obtain ⟨a0, qh0, h⟩ := obind_some h
  obtain ⟨b1, qh1, h⟩ := obind_some h
  rw [argV_eq ok qh0, argV_eq ok qh1]
  exact call_of (phiE_nat _ _) hs ok mixed Try.func24 (c := laws_eqYard_code) (by kernel_rfl) (laws_eqYard_lo n) (by kernel_rfl) (by kernel_rfl) (by kernel_rfl) laws_eqYard_de ((laws_eqYard_tie n a0 b1).trans h)
noncomputable def laws_eqStringS_code : Code := match Try.f216.body with | some c => c | none => .skip
def laws_eqStringS_4_sv : List Sv := [.one (.arr 9), .one (.arr 9), .one (.int .i64)]
def laws_eqStringS_4_so : List So := []
def laws_eqStringS_4_emb (c : List ByteArray × List ByteArray) (x : Int) : EVs T laws_eqStringS_4_sv × EOs T laws_eqStringS_4_so := ((c.1, c.2, x, ()), ())
def laws_eqStringS_4_prj (y : EVs T laws_eqStringS_4_sv × EOs T laws_eqStringS_4_so) : (List ByteArray × List ByteArray) × Int := ((y.1.1, y.1.2.1), (y.1.2.2.1))
def laws_eqStringS_4_b (n : Nat) {R : Type} (K : Ex → Sm.St T → Option R) (c : List ByteArray × List ByteArray) (x : Int) (J : Int → Option R) : Option R :=
  laws_eqStringS_L4 n (K (.exit 0) (stOf (T := T) [] [] [] [] () ())) (fun (y0 : Bool) => K .ret (stOf (T := T) [4] [] [.one (.bool)] [] (y0, ()) ())) J c.1 c.2 x
def laws_eqStringS_4_sp (n : Nat) : LSpec T := mkSpec T ⟨[], [0, 1, 5], []⟩ laws_eqStringS_4_sv laws_eqStringS_4_so (List ByteArray × List ByteArray) (Int) laws_eqStringS_4_emb laws_eqStringS_4_prj (laws_eqStringS_4_b n)
noncomputable def laws_eqStringS_4_c : Code := ((loopCodes laws_eqStringS_code)[0]?).getD .skip
def laws_eqStringS_ann : Ann := fun id => bif Nat.beq id 3000004 then some ⟨[], [], []⟩ else bif Nat.beq id 2000004 then some ⟨[], [4], []⟩ else none
def laws_eqStringS_Ls (n : Nat) : Nat → Option (LSpec T) := fun id => bif Nat.beq id 4 then some (laws_eqStringS_4_sp n) else none
theorem laws_eqStringS_4_le (n : Nat) : LoopEq (T := T) (Phi n 67) (laws_eqStringS_Ls n) laws_eqStringS_ann n laws_eqStringS_4_c (laws_eqStringS_4_sp n) := ⟨mkSpec_dec (fun y => rfl), fun c x => by kernel_rfl, fun K J c x => by kernel_rfl⟩
theorem laws_eqStringS_tie (n : Nat) (a0 : List ByteArray) (b1 : List ByteArray) : evF (T := T) (Phi n 67) (laws_eqStringS_Ls n) laws_eqStringS_ann n Try.f216 (sg 216) [vA T 77 a0, vA T 77 b1] laws_eqStringS_dec = laws_eqStringS n a0 b1 := by kernel_rfl
theorem laws_eqStringS_lo (n : Nat) : LoopsOk (T := T) (Phi n 67) (laws_eqStringS_Ls n) laws_eqStringS_ann n laws_eqStringS_code := loopsOk_all (cs := [laws_eqStringS_4_c]) (by kernel_rfl) ⟨⟨_, by kernel_rfl, laws_eqStringS_4_le n⟩, trivial⟩
theorem laws_eqStringS_ok (n : Nat) : EntOk Try.prog (ents n) (laws_eqStringS_ent n) := by
  intro hs ar y hg h
  replace h : laws_eqStringS_D n ar = some y := h
  unfold laws_eqStringS_D at h
  replace h := ocons_some h
  obtain ⟨a0, r0, rfl, h⟩ := h
  replace h := ocons_some h
  obtain ⟨a1, r1, rfl, h⟩ := h
  replace h := onil_some h
  obtain ⟨rfl, h⟩ := h
  obtain ⟨a0, qh0, h⟩ := obind_some h
  obtain ⟨b1, qh1, h⟩ := obind_some h
  rw [argV_eq ok qh0, argV_eq ok qh1]
  exact call_of (phiE_nat _ _) hs ok mixed Try.func216 (c := laws_eqStringS_code) (by kernel_rfl) (laws_eqStringS_lo n) (by kernel_rfl) (by kernel_rfl) (by kernel_rfl) laws_eqStringS_de ((laws_eqStringS_tie n a0 b1).trans h)
noncomputable def laws_eqBill_code : Code := match Try.f180.body with | some c => c | none => .skip
def laws_eqBill_ann : Ann := fun id => none
def laws_eqBill_Ls (n : Nat) : Nat → Option (LSpec T) := fun id => none
theorem laws_eqBill_tie (n : Nat) (a0 : SBill) (b1 : SBill) : evF (T := T) (Phi n 68) (laws_eqBill_Ls n) laws_eqBill_ann n Try.f180 (sg 180) [vA T 79 a0, vA T 79 b1] laws_eqBill_dec = laws_eqBill n a0 b1 := by kernel_rfl
theorem laws_eqBill_lo (n : Nat) : LoopsOk (T := T) (Phi n 68) (laws_eqBill_Ls n) laws_eqBill_ann n laws_eqBill_code := loopsOk_all (cs := []) (by kernel_rfl) trivial
theorem laws_eqBill_ok (n : Nat) : EntOk Try.prog (ents n) (laws_eqBill_ent n) := by
  intro hs ar y hg h
  replace h : laws_eqBill_D n ar = some y := h
  unfold laws_eqBill_D at h
  replace h := ocons_some h
  obtain ⟨a0, r0, rfl, h⟩ := h
  replace h := ocons_some h
  obtain ⟨a1, r1, rfl, h⟩ := h
  replace h := onil_some h
  obtain ⟨rfl, h⟩ := h
  obtain ⟨a0, qh0, h⟩ := obind_some h
  obtain ⟨b1, qh1, h⟩ := obind_some h
  rw [argV_eq ok qh0, argV_eq ok qh1]
  exact call_of (phiE_nat _ _) hs ok mixed Try.func180 (c := laws_eqBill_code) (by kernel_rfl) (laws_eqBill_lo n) (by kernel_rfl) (by kernel_rfl) (by kernel_rfl) laws_eqBill_de ((laws_eqBill_tie n a0 b1).trans h)
noncomputable def laws_eqBillS_code : Code := match Try.f91.body with | some c => c | none => .skip
def laws_eqBillS_4_sv : List Sv := [.one (.arr 79), .one (.arr 79), .one (.int .i64)]
def laws_eqBillS_4_so : List So := []
def laws_eqBillS_4_emb (c : List SBill × List SBill) (x : Int) : EVs T laws_eqBillS_4_sv × EOs T laws_eqBillS_4_so := ((c.1, c.2, x, ()), ())
def laws_eqBillS_4_prj (y : EVs T laws_eqBillS_4_sv × EOs T laws_eqBillS_4_so) : (List SBill × List SBill) × Int := ((y.1.1, y.1.2.1), (y.1.2.2.1))
def laws_eqBillS_4_b (n : Nat) {R : Type} (K : Ex → Sm.St T → Option R) (c : List SBill × List SBill) (x : Int) (J : Int → Option R) : Option R :=
  laws_eqBillS_L4 n (K (.exit 0) (stOf (T := T) [] [] [] [] () ())) (fun (y0 : Bool) => K .ret (stOf (T := T) [4] [] [.one (.bool)] [] (y0, ()) ())) J c.1 c.2 x
def laws_eqBillS_4_sp (n : Nat) : LSpec T := mkSpec T ⟨[], [0, 1, 5], []⟩ laws_eqBillS_4_sv laws_eqBillS_4_so (List SBill × List SBill) (Int) laws_eqBillS_4_emb laws_eqBillS_4_prj (laws_eqBillS_4_b n)
noncomputable def laws_eqBillS_4_c : Code := ((loopCodes laws_eqBillS_code)[0]?).getD .skip
def laws_eqBillS_ann : Ann := fun id => bif Nat.beq id 3000004 then some ⟨[], [], []⟩ else bif Nat.beq id 2000004 then some ⟨[], [4], []⟩ else none
def laws_eqBillS_Ls (n : Nat) : Nat → Option (LSpec T) := fun id => bif Nat.beq id 4 then some (laws_eqBillS_4_sp n) else none
theorem laws_eqBillS_4_le (n : Nat) : LoopEq (T := T) (Phi n 69) (laws_eqBillS_Ls n) laws_eqBillS_ann n laws_eqBillS_4_c (laws_eqBillS_4_sp n) := ⟨mkSpec_dec (fun y => rfl), fun c x => by kernel_rfl, fun K J c x => by kernel_rfl⟩
theorem laws_eqBillS_tie (n : Nat) (a0 : List SBill) (b1 : List SBill) : evF (T := T) (Phi n 69) (laws_eqBillS_Ls n) laws_eqBillS_ann n Try.f91 (sg 91) [vA T 29 a0, vA T 29 b1] laws_eqBillS_dec = laws_eqBillS n a0 b1 := by kernel_rfl
theorem laws_eqBillS_lo (n : Nat) : LoopsOk (T := T) (Phi n 69) (laws_eqBillS_Ls n) laws_eqBillS_ann n laws_eqBillS_code := loopsOk_all (cs := [laws_eqBillS_4_c]) (by kernel_rfl) ⟨⟨_, by kernel_rfl, laws_eqBillS_4_le n⟩, trivial⟩
theorem laws_eqBillS_ok (n : Nat) : EntOk Try.prog (ents n) (laws_eqBillS_ent n) := by
  intro hs ar y hg h
  replace h : laws_eqBillS_D n ar = some y := h
  unfold laws_eqBillS_D at h
  replace h := ocons_some h
  obtain ⟨a0, r0, rfl, h⟩ := h
  replace h := ocons_some h
  obtain ⟨a1, r1, rfl, h⟩ := h
  replace h := onil_some h
  obtain ⟨rfl, h⟩ := h
  obtain ⟨a0, qh0, h⟩ := obind_some h
  obtain ⟨b1, qh1, h⟩ := obind_some h
  rw [argV_eq ok qh0, argV_eq ok qh1]
  exact call_of (phiE_nat _ _) hs ok mixed Try.func91 (c := laws_eqBillS_code) (by kernel_rfl) (laws_eqBillS_lo n) (by kernel_rfl) (by kernel_rfl) (by kernel_rfl) laws_eqBillS_de ((laws_eqBillS_tie n a0 b1).trans h)
noncomputable def laws_eqBook_code : Code := match Try.f18.body with | some c => c | none => .skip
def laws_eqBook_ann : Ann := fun id => none
def laws_eqBook_Ls (n : Nat) : Nat → Option (LSpec T) := fun id => none
theorem laws_eqBook_tie (n : Nat) (a0 : SBook) (b1 : SBook) : evF (T := T) (Phi n 70) (laws_eqBook_Ls n) laws_eqBook_ann n Try.f18 (sg 18) [vA T 31 a0, vA T 31 b1] laws_eqBook_dec = laws_eqBook n a0 b1 := by kernel_rfl
theorem laws_eqBook_lo (n : Nat) : LoopsOk (T := T) (Phi n 70) (laws_eqBook_Ls n) laws_eqBook_ann n laws_eqBook_code := loopsOk_all (cs := []) (by kernel_rfl) trivial
theorem laws_eqBook_ok (n : Nat) : EntOk Try.prog (ents n) (laws_eqBook_ent n) := by
  intro hs ar y hg h
  replace h : laws_eqBook_D n ar = some y := h
  unfold laws_eqBook_D at h
  replace h := ocons_some h
  obtain ⟨a0, r0, rfl, h⟩ := h
  replace h := ocons_some h
  obtain ⟨a1, r1, rfl, h⟩ := h
  replace h := onil_some h
  obtain ⟨rfl, h⟩ := h
  obtain ⟨a0, qh0, h⟩ := obind_some h
  obtain ⟨b1, qh1, h⟩ := obind_some h
  rw [argV_eq ok qh0, argV_eq ok qh1]
  exact call_of (phiE_nat _ _) hs ok mixed Try.func18 (c := laws_eqBook_code) (by kernel_rfl) (laws_eqBook_lo n) (by kernel_rfl) (by kernel_rfl) (by kernel_rfl) laws_eqBook_de ((laws_eqBook_tie n a0 b1).trans h)
noncomputable def laws_eqLot_code : Code := match Try.f207.body with | some c => c | none => .skip
def laws_eqLot_ann : Ann := fun id => none
def laws_eqLot_Ls (n : Nat) : Nat → Option (LSpec T) := fun id => none
theorem laws_eqLot_tie (n : Nat) (a0 : SLot) (b1 : SLot) : evF (T := T) (Phi n 71) (laws_eqLot_Ls n) laws_eqLot_ann n Try.f207 (sg 207) [vA T 116 a0, vA T 116 b1] laws_eqLot_dec = laws_eqLot n a0 b1 := by kernel_rfl
theorem laws_eqLot_lo (n : Nat) : LoopsOk (T := T) (Phi n 71) (laws_eqLot_Ls n) laws_eqLot_ann n laws_eqLot_code := loopsOk_all (cs := []) (by kernel_rfl) trivial
theorem laws_eqLot_ok (n : Nat) : EntOk Try.prog (ents n) (laws_eqLot_ent n) := by
  intro hs ar y hg h
  replace h : laws_eqLot_D n ar = some y := h
  unfold laws_eqLot_D at h
  replace h := ocons_some h
  obtain ⟨a0, r0, rfl, h⟩ := h
  replace h := ocons_some h
  obtain ⟨a1, r1, rfl, h⟩ := h
  replace h := onil_some h
  obtain ⟨rfl, h⟩ := h
  obtain ⟨a0, qh0, h⟩ := obind_some h
  obtain ⟨b1, qh1, h⟩ := obind_some h
  rw [argV_eq ok qh0, argV_eq ok qh1]
  exact call_of (phiE_nat _ _) hs ok mixed Try.func207 (c := laws_eqLot_code) (by kernel_rfl) (laws_eqLot_lo n) (by kernel_rfl) (by kernel_rfl) (by kernel_rfl) laws_eqLot_de ((laws_eqLot_tie n a0 b1).trans h)
noncomputable def laws_eqLotS_code : Code := match Try.f147.body with | some c => c | none => .skip
def laws_eqLotS_4_sv : List Sv := [.one (.arr 116), .one (.arr 116), .one (.int .i64)]
def laws_eqLotS_4_so : List So := []
def laws_eqLotS_4_emb (c : List SLot × List SLot) (x : Int) : EVs T laws_eqLotS_4_sv × EOs T laws_eqLotS_4_so := ((c.1, c.2, x, ()), ())
def laws_eqLotS_4_prj (y : EVs T laws_eqLotS_4_sv × EOs T laws_eqLotS_4_so) : (List SLot × List SLot) × Int := ((y.1.1, y.1.2.1), (y.1.2.2.1))
def laws_eqLotS_4_b (n : Nat) {R : Type} (K : Ex → Sm.St T → Option R) (c : List SLot × List SLot) (x : Int) (J : Int → Option R) : Option R :=
  laws_eqLotS_L4 n (K (.exit 0) (stOf (T := T) [] [] [] [] () ())) (fun (y0 : Bool) => K .ret (stOf (T := T) [4] [] [.one (.bool)] [] (y0, ()) ())) J c.1 c.2 x
def laws_eqLotS_4_sp (n : Nat) : LSpec T := mkSpec T ⟨[], [0, 1, 5], []⟩ laws_eqLotS_4_sv laws_eqLotS_4_so (List SLot × List SLot) (Int) laws_eqLotS_4_emb laws_eqLotS_4_prj (laws_eqLotS_4_b n)
noncomputable def laws_eqLotS_4_c : Code := ((loopCodes laws_eqLotS_code)[0]?).getD .skip
def laws_eqLotS_ann : Ann := fun id => bif Nat.beq id 3000004 then some ⟨[], [], []⟩ else bif Nat.beq id 2000004 then some ⟨[], [4], []⟩ else none
def laws_eqLotS_Ls (n : Nat) : Nat → Option (LSpec T) := fun id => bif Nat.beq id 4 then some (laws_eqLotS_4_sp n) else none
theorem laws_eqLotS_4_le (n : Nat) : LoopEq (T := T) (Phi n 72) (laws_eqLotS_Ls n) laws_eqLotS_ann n laws_eqLotS_4_c (laws_eqLotS_4_sp n) := ⟨mkSpec_dec (fun y => rfl), fun c x => by kernel_rfl, fun K J c x => by kernel_rfl⟩
theorem laws_eqLotS_tie (n : Nat) (a0 : List SLot) (b1 : List SLot) : evF (T := T) (Phi n 72) (laws_eqLotS_Ls n) laws_eqLotS_ann n Try.f147 (sg 147) [vA T 89 a0, vA T 89 b1] laws_eqLotS_dec = laws_eqLotS n a0 b1 := by kernel_rfl
theorem laws_eqLotS_lo (n : Nat) : LoopsOk (T := T) (Phi n 72) (laws_eqLotS_Ls n) laws_eqLotS_ann n laws_eqLotS_code := loopsOk_all (cs := [laws_eqLotS_4_c]) (by kernel_rfl) ⟨⟨_, by kernel_rfl, laws_eqLotS_4_le n⟩, trivial⟩
theorem laws_eqLotS_ok (n : Nat) : EntOk Try.prog (ents n) (laws_eqLotS_ent n) := by
  intro hs ar y hg h
  replace h : laws_eqLotS_D n ar = some y := h
  unfold laws_eqLotS_D at h
  replace h := ocons_some h
  obtain ⟨a0, r0, rfl, h⟩ := h
  replace h := ocons_some h
  obtain ⟨a1, r1, rfl, h⟩ := h
  replace h := onil_some h
  obtain ⟨rfl, h⟩ := h
  obtain ⟨a0, qh0, h⟩ := obind_some h
  obtain ⟨b1, qh1, h⟩ := obind_some h
  rw [argV_eq ok qh0, argV_eq ok qh1]
  exact call_of (phiE_nat _ _) hs ok mixed Try.func147 (c := laws_eqLotS_code) (by kernel_rfl) (laws_eqLotS_lo n) (by kernel_rfl) (by kernel_rfl) (by kernel_rfl) laws_eqLotS_de ((laws_eqLotS_tie n a0 b1).trans h)
noncomputable def laws_eqTrader_code : Code := match Try.f208.body with | some c => c | none => .skip
def laws_eqTrader_ann : Ann := fun id => none
def laws_eqTrader_Ls (n : Nat) : Nat → Option (LSpec T) := fun id => none
theorem laws_eqTrader_tie (n : Nat) (a0 : STrader) (b1 : STrader) : evF (T := T) (Phi n 73) (laws_eqTrader_Ls n) laws_eqTrader_ann n Try.f208 (sg 208) [vA T 114 a0, vA T 114 b1] laws_eqTrader_dec = laws_eqTrader n a0 b1 := by kernel_rfl
theorem laws_eqTrader_lo (n : Nat) : LoopsOk (T := T) (Phi n 73) (laws_eqTrader_Ls n) laws_eqTrader_ann n laws_eqTrader_code := loopsOk_all (cs := []) (by kernel_rfl) trivial
theorem laws_eqTrader_ok (n : Nat) : EntOk Try.prog (ents n) (laws_eqTrader_ent n) := by
  intro hs ar y hg h
  replace h : laws_eqTrader_D n ar = some y := h
  unfold laws_eqTrader_D at h
  replace h := ocons_some h
  obtain ⟨a0, r0, rfl, h⟩ := h
  replace h := ocons_some h
  obtain ⟨a1, r1, rfl, h⟩ := h
  replace h := onil_some h
  obtain ⟨rfl, h⟩ := h
  obtain ⟨a0, qh0, h⟩ := obind_some h
  obtain ⟨b1, qh1, h⟩ := obind_some h
  rw [argV_eq ok qh0, argV_eq ok qh1]
  exact call_of (phiE_nat _ _) hs ok mixed Try.func208 (c := laws_eqTrader_code) (by kernel_rfl) (laws_eqTrader_lo n) (by kernel_rfl) (by kernel_rfl) (by kernel_rfl) laws_eqTrader_de ((laws_eqTrader_tie n a0 b1).trans h)
noncomputable def laws_eqTraderS_code : Code := match Try.f148.body with | some c => c | none => .skip
def laws_eqTraderS_4_sv : List Sv := [.one (.arr 114), .one (.arr 114), .one (.int .i64)]
def laws_eqTraderS_4_so : List So := []
def laws_eqTraderS_4_emb (c : List STrader × List STrader) (x : Int) : EVs T laws_eqTraderS_4_sv × EOs T laws_eqTraderS_4_so := ((c.1, c.2, x, ()), ())
def laws_eqTraderS_4_prj (y : EVs T laws_eqTraderS_4_sv × EOs T laws_eqTraderS_4_so) : (List STrader × List STrader) × Int := ((y.1.1, y.1.2.1), (y.1.2.2.1))
def laws_eqTraderS_4_b (n : Nat) {R : Type} (K : Ex → Sm.St T → Option R) (c : List STrader × List STrader) (x : Int) (J : Int → Option R) : Option R :=
  laws_eqTraderS_L4 n (K (.exit 0) (stOf (T := T) [] [] [] [] () ())) (fun (y0 : Bool) => K .ret (stOf (T := T) [4] [] [.one (.bool)] [] (y0, ()) ())) J c.1 c.2 x
def laws_eqTraderS_4_sp (n : Nat) : LSpec T := mkSpec T ⟨[], [0, 1, 5], []⟩ laws_eqTraderS_4_sv laws_eqTraderS_4_so (List STrader × List STrader) (Int) laws_eqTraderS_4_emb laws_eqTraderS_4_prj (laws_eqTraderS_4_b n)
noncomputable def laws_eqTraderS_4_c : Code := ((loopCodes laws_eqTraderS_code)[0]?).getD .skip
def laws_eqTraderS_ann : Ann := fun id => bif Nat.beq id 3000004 then some ⟨[], [], []⟩ else bif Nat.beq id 2000004 then some ⟨[], [4], []⟩ else none
def laws_eqTraderS_Ls (n : Nat) : Nat → Option (LSpec T) := fun id => bif Nat.beq id 4 then some (laws_eqTraderS_4_sp n) else none
theorem laws_eqTraderS_4_le (n : Nat) : LoopEq (T := T) (Phi n 74) (laws_eqTraderS_Ls n) laws_eqTraderS_ann n laws_eqTraderS_4_c (laws_eqTraderS_4_sp n) := ⟨mkSpec_dec (fun y => rfl), fun c x => by kernel_rfl, fun K J c x => by kernel_rfl⟩
theorem laws_eqTraderS_tie (n : Nat) (a0 : List STrader) (b1 : List STrader) : evF (T := T) (Phi n 74) (laws_eqTraderS_Ls n) laws_eqTraderS_ann n Try.f148 (sg 148) [vA T 90 a0, vA T 90 b1] laws_eqTraderS_dec = laws_eqTraderS n a0 b1 := by kernel_rfl
theorem laws_eqTraderS_lo (n : Nat) : LoopsOk (T := T) (Phi n 74) (laws_eqTraderS_Ls n) laws_eqTraderS_ann n laws_eqTraderS_code := loopsOk_all (cs := [laws_eqTraderS_4_c]) (by kernel_rfl) ⟨⟨_, by kernel_rfl, laws_eqTraderS_4_le n⟩, trivial⟩
theorem laws_eqTraderS_ok (n : Nat) : EntOk Try.prog (ents n) (laws_eqTraderS_ent n) := by
  intro hs ar y hg h
  replace h : laws_eqTraderS_D n ar = some y := h
  unfold laws_eqTraderS_D at h
  replace h := ocons_some h
  obtain ⟨a0, r0, rfl, h⟩ := h
  replace h := ocons_some h
  obtain ⟨a1, r1, rfl, h⟩ := h
  replace h := onil_some h
  obtain ⟨rfl, h⟩ := h
  obtain ⟨a0, qh0, h⟩ := obind_some h
  obtain ⟨b1, qh1, h⟩ := obind_some h
  rw [argV_eq ok qh0, argV_eq ok qh1]
  exact call_of (phiE_nat _ _) hs ok mixed Try.func148 (c := laws_eqTraderS_code) (by kernel_rfl) (laws_eqTraderS_lo n) (by kernel_rfl) (by kernel_rfl) (by kernel_rfl) laws_eqTraderS_de ((laws_eqTraderS_tie n a0 b1).trans h)
noncomputable def laws_eqHouse_code : Code := match Try.f53.body with | some c => c | none => .skip
def laws_eqHouse_ann : Ann := fun id => none
def laws_eqHouse_Ls (n : Nat) : Nat → Option (LSpec T) := fun id => none
theorem laws_eqHouse_tie (n : Nat) (a0 : SHouse) (b1 : SHouse) : evF (T := T) (Phi n 75) (laws_eqHouse_Ls n) laws_eqHouse_ann n Try.f53 (sg 53) [vA T 92 a0, vA T 92 b1] laws_eqHouse_dec = laws_eqHouse n a0 b1 := by kernel_rfl
theorem laws_eqHouse_lo (n : Nat) : LoopsOk (T := T) (Phi n 75) (laws_eqHouse_Ls n) laws_eqHouse_ann n laws_eqHouse_code := loopsOk_all (cs := []) (by kernel_rfl) trivial
theorem laws_eqHouse_ok (n : Nat) : EntOk Try.prog (ents n) (laws_eqHouse_ent n) := by
  intro hs ar y hg h
  replace h : laws_eqHouse_D n ar = some y := h
  unfold laws_eqHouse_D at h
  replace h := ocons_some h
  obtain ⟨a0, r0, rfl, h⟩ := h
  replace h := ocons_some h
  obtain ⟨a1, r1, rfl, h⟩ := h
  replace h := onil_some h
  obtain ⟨rfl, h⟩ := h
  obtain ⟨a0, qh0, h⟩ := obind_some h
  obtain ⟨b1, qh1, h⟩ := obind_some h
  rw [argV_eq ok qh0, argV_eq ok qh1]
  exact call_of (phiE_nat _ _) hs ok mixed Try.func53 (c := laws_eqHouse_code) (by kernel_rfl) (laws_eqHouse_lo n) (by kernel_rfl) (by kernel_rfl) (by kernel_rfl) laws_eqHouse_de ((laws_eqHouse_tie n a0 b1).trans h)
noncomputable def laws_eqPort_code : Code := match Try.f81.body with | some c => c | none => .skip
def laws_eqPort_ann : Ann := fun id => none
def laws_eqPort_Ls (n : Nat) : Nat → Option (LSpec T) := fun id => none
theorem laws_eqPort_tie (n : Nat) (a0 : SPort) (b1 : SPort) : evF (T := T) (Phi n 76) (laws_eqPort_Ls n) laws_eqPort_ann n Try.f81 (sg 81) [vA T 140 a0, vA T 140 b1] laws_eqPort_dec = laws_eqPort n a0 b1 := by kernel_rfl
theorem laws_eqPort_lo (n : Nat) : LoopsOk (T := T) (Phi n 76) (laws_eqPort_Ls n) laws_eqPort_ann n laws_eqPort_code := loopsOk_all (cs := []) (by kernel_rfl) trivial
theorem laws_eqPort_ok (n : Nat) : EntOk Try.prog (ents n) (laws_eqPort_ent n) := by
  intro hs ar y hg h
  replace h : laws_eqPort_D n ar = some y := h
  unfold laws_eqPort_D at h
  replace h := ocons_some h
  obtain ⟨a0, r0, rfl, h⟩ := h
  replace h := ocons_some h
  obtain ⟨a1, r1, rfl, h⟩ := h
  replace h := onil_some h
  obtain ⟨rfl, h⟩ := h
  obtain ⟨a0, qh0, h⟩ := obind_some h
  obtain ⟨b1, qh1, h⟩ := obind_some h
  rw [argV_eq ok qh0, argV_eq ok qh1]
  exact call_of (phiE_nat _ _) hs ok mixed Try.func81 (c := laws_eqPort_code) (by kernel_rfl) (laws_eqPort_lo n) (by kernel_rfl) (by kernel_rfl) (by kernel_rfl) laws_eqPort_de ((laws_eqPort_tie n a0 b1).trans h)
noncomputable def laws_FnExactPortOk_code : Code := match Try.f13.body with | some c => c | none => .skip
def laws_FnExactPortOk_ann : Ann := fun id => none
def laws_FnExactPortOk_Ls (n : Nat) : Nat → Option (LSpec T) := fun id => none
theorem laws_FnExactPortOk_tie (n : Nat) (aP0 : SPort) : evF (T := T) (Phi n 77) (laws_FnExactPortOk_Ls n) laws_FnExactPortOk_ann n Try.f13 (sg 13) [vA T 136 aP0] laws_FnExactPortOk_dec = laws_FnExactPortOk n aP0 := by kernel_rfl
theorem laws_FnExactPortOk_lo (n : Nat) : LoopsOk (T := T) (Phi n 77) (laws_FnExactPortOk_Ls n) laws_FnExactPortOk_ann n laws_FnExactPortOk_code := loopsOk_all (cs := []) (by kernel_rfl) trivial
theorem laws_FnExactPortOk_ok (n : Nat) : EntOk Try.prog (ents n) (laws_FnExactPortOk_ent n) := by
  intro hs ar y hg h
  replace h : laws_FnExactPortOk_D n ar = some y := h
  unfold laws_FnExactPortOk_D at h
  replace h := ocons_some h
  obtain ⟨a0, r0, rfl, h⟩ := h
  replace h := onil_some h
  obtain ⟨rfl, h⟩ := h
  obtain ⟨aP0, qh0, h⟩ := obind_some h
  rw [argV_eq ok qh0]
  exact call_of (phiE_nat _ _) hs ok mixed Try.func13 (c := laws_FnExactPortOk_code) (by kernel_rfl) (laws_FnExactPortOk_lo n) (by kernel_rfl) (by kernel_rfl) (by kernel_rfl) laws_FnExactPortOk_de ((laws_FnExactPortOk_tie n aP0).trans h)
theorem entsOk (n : Nat) : EntsOk Try.prog (ents n) (ents n) := ⟨laws_szCallS_ok n, laws_szIntS_ok n, laws_szIntSS_ok n, laws_szYard_ok n, laws_szStringS_ok n, laws_szBill_ok n, laws_szBillS_ok n, laws_szBook_ok n, laws_szLotS_ok n, laws_szTraderS_ok n, laws_szHouse_ok n, laws_szPort_ok n, laws_toCall_ok n, laws_toCallS_ok n, laws_toIntS_ok n, laws_toIntSS_ok n, laws_toYard_ok n, laws_toStringS_ok n, laws_toBill_ok n, laws_toBillS_ok n, laws_toBook_ok n, laws_toLot_ok n, laws_toLotS_ok n, laws_toTrader_ok n, laws_toTraderS_ok n, laws_toHouse_ok n, laws_toPort_ok n, spec_l17Meet_ok n, spec_l1In_ok n, spec_l1Minute_ok n, spec_CallsOk_ok n, spec_Clear17_ok n, spec_l18Count_ok n, spec_YardOk_ok n, spec_l1Name_ok n, spec_l14Find_ok n, spec_BookOk_ok n, spec_Duty6_ok n, spec_HouseOk_ok n, spec_PortOk_ok n, impl_in_ok n, impl_idRight_ok n, impl_minuteOk_ok n, impl_callOk_ok n, impl_CallsOk_ok n, impl_shares_ok n, impl_Clear17_1_ok n, slices_IndexFunc_impl_Call_impl_Call__impl_Clear17_1_ok n, slices_ContainsFunc_impl_Call_impl_Call__impl_Clear17_1_ok n, impl_Clear17_ok n, impl_YardOk_ok n, impl_nameOk_ok n, impl_emptyOrName_ok n, impl_BookOk_1_ok n, slices_IndexFunc_string_string__impl_BookOk_1_ok n, slices_ContainsFunc_string_string__impl_BookOk_1_ok n, impl_BookOk_ok n, impl_lotRight_ok n, impl_Duty6_ok n, impl_Lot_duty_ok n, impl_HouseOk_ok n, impl_PortOk_ok n, laws_eqCall_ok n, laws_eqCallS_ok n, laws_eqIntS_ok n, laws_eqIntSS_ok n, laws_eqYard_ok n, laws_eqStringS_ok n, laws_eqBill_ok n, laws_eqBillS_ok n, laws_eqBook_ok n, laws_eqLot_ok n, laws_eqLotS_ok n, laws_eqTrader_ok n, laws_eqTraderS_ok n, laws_eqHouse_ok n, laws_eqPort_ok n, laws_FnExactPortOk_ok n, trivial⟩
theorem sem (n i : Nat) : SemOk (Phi n i) (CallOk Try.prog T) := phiE_ok (entsOk n) i
end Go.Sm.D13
