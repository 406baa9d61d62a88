import Derived.Test.YtjilmfkglikoeaaB14Tb
import Derived.KernelRfl
/- Each function's code computes what the plain function computes. -/
set_option linter.unusedSimpArgs false
set_option linter.deprecated false
set_option linter.unusedSectionVars false
set_option linter.unusedVariables false
set_option maxRecDepth 100000
open Go Go.Proofs
noncomputable section
namespace Go.Sm.B14
/-- By recursors, and of a greater height than all of the functions: the kernel takes these apart first. -/
def obind {α β : Type} (o : Option α) (f : α → Option β) : Option β := let _ := @laws_FnExactNewPort; Option.rec (motive := fun _ => Option β) none (fun a => f a) o
theorem obind_some {α β : Type} {o : Option α} {f : α → Option β} {y : β} (h : obind o f = some y) : ∃ a, o = some a ∧ f a = some y := by
  cases o with
  | none => cases h
  | some a => exact ⟨a, rfl, h⟩
def ocons {β : Type} (l : List (A T)) (f : A T → List (A T) → Option β) : Option β := let _ := @laws_FnExactNewPort; List.rec (motive := fun _ => Option β) none (fun a r _ => f a r) l
theorem ocons_some {β : Type} {l : List (A T)} {f : A T → List (A T) → Option β} {y : β} (h : ocons l f = some y) : ∃ a r, l = a :: r ∧ f a r = some y := by
  cases l with
  | nil => cases h
  | cons a r => exact ⟨a, r, rfl, h⟩
def onil {β : Type} (l : List (A T)) (x : Option β) : Option β := let _ := @laws_FnExactNewPort; List.rec (motive := fun _ => Option β) x (fun _ _ _ => none) l
theorem onil_some {β : Type} {l : List (A T)} {x : Option β} {y : β} (h : onil l x = some y) : l = [] ∧ x = some y := by
  cases l with
  | nil => exact ⟨rfl, h⟩
  | cons a r => cases h
def spec_NewPort_dec (res : Res T) : Option SPort := match res.rets, res.outs with
  | [a0], [] => (retV (T := T) 145 a0).bind fun r0 => some (r0)
  | _, _ => none
def spec_NewPort_enc (y : SPort) : Res T := ⟨[vR T 145 y], []⟩
theorem spec_NewPort_de (res : Res T) (y : SPort) (h : spec_NewPort_dec res = some y) : res = spec_NewPort_enc y := by
  obtain ⟨rets, outs⟩ := res
  unfold spec_NewPort_dec at h
  dsimp only at h
  split at h
  · obtain ⟨r0, h0, h⟩ := Option.bind_eq_some_iff.1 h
    cases h
    rw [retV_eq ok h0]
    rfl
  · cases h
def impl_NewPort_dec (res : Res T) : Option SPort := match res.rets, res.outs with
  | [a0], [] => (retV (T := T) 145 a0).bind fun r0 => some (r0)
  | _, _ => none
def impl_NewPort_enc (y : SPort) : Res T := ⟨[vR T 145 y], []⟩
theorem impl_NewPort_de (res : Res T) (y : SPort) (h : impl_NewPort_dec res = some y) : res = impl_NewPort_enc y := by
  obtain ⟨rets, outs⟩ := res
  unfold impl_NewPort_dec at h
  dsimp only at h
  split at h
  · obtain ⟨r0, h0, h⟩ := Option.bind_eq_some_iff.1 h
    cases h
    rw [retV_eq ok h0]
    rfl
  · cases h
def laws_eqCall_dec (res : Res T) : Option Bool := match res.rets, res.outs with
  | [a0], [] => (retV (T := T) 4 a0).bind fun r0 => some (r0)
  | _, _ => none
def laws_eqCall_enc (y : Bool) : Res T := ⟨[vR T 4 y], []⟩
theorem laws_eqCall_de (res : Res T) (y : Bool) (h : laws_eqCall_dec res = some y) : res = laws_eqCall_enc y := by
  obtain ⟨rets, outs⟩ := res
  unfold laws_eqCall_dec at h
  dsimp only at h
  split at h
  · obtain ⟨r0, h0, h⟩ := Option.bind_eq_some_iff.1 h
    cases h
    rw [retV_eq ok h0]
    rfl
  · cases h
def laws_eqCallS_dec (res : Res T) : Option Bool := match res.rets, res.outs with
  | [a0], [] => (retV (T := T) 4 a0).bind fun r0 => some (r0)
  | _, _ => none
def laws_eqCallS_enc (y : Bool) : Res T := ⟨[vR T 4 y], []⟩
theorem laws_eqCallS_de (res : Res T) (y : Bool) (h : laws_eqCallS_dec res = some y) : res = laws_eqCallS_enc y := by
  obtain ⟨rets, outs⟩ := res
  unfold laws_eqCallS_dec at h
  dsimp only at h
  split at h
  · obtain ⟨r0, h0, h⟩ := Option.bind_eq_some_iff.1 h
    cases h
    rw [retV_eq ok h0]
    rfl
  · cases h
def laws_eqIntS_dec (res : Res T) : Option Bool := match res.rets, res.outs with
  | [a0], [] => (retV (T := T) 4 a0).bind fun r0 => some (r0)
  | _, _ => none
def laws_eqIntS_enc (y : Bool) : Res T := ⟨[vR T 4 y], []⟩
theorem laws_eqIntS_de (res : Res T) (y : Bool) (h : laws_eqIntS_dec res = some y) : res = laws_eqIntS_enc y := by
  obtain ⟨rets, outs⟩ := res
  unfold laws_eqIntS_dec at h
  dsimp only at h
  split at h
  · obtain ⟨r0, h0, h⟩ := Option.bind_eq_some_iff.1 h
    cases h
    rw [retV_eq ok h0]
    rfl
  · cases h
def laws_eqIntSS_dec (res : Res T) : Option Bool := match res.rets, res.outs with
  | [a0], [] => (retV (T := T) 4 a0).bind fun r0 => some (r0)
  | _, _ => none
def laws_eqIntSS_enc (y : Bool) : Res T := ⟨[vR T 4 y], []⟩
theorem laws_eqIntSS_de (res : Res T) (y : Bool) (h : laws_eqIntSS_dec res = some y) : res = laws_eqIntSS_enc y := by
  obtain ⟨rets, outs⟩ := res
  unfold laws_eqIntSS_dec at h
  dsimp only at h
  split at h
  · obtain ⟨r0, h0, h⟩ := Option.bind_eq_some_iff.1 h
    cases h
    rw [retV_eq ok h0]
    rfl
  · cases h
def laws_eqYard_dec (res : Res T) : Option Bool := match res.rets, res.outs with
  | [a0], [] => (retV (T := T) 4 a0).bind fun r0 => some (r0)
  | _, _ => none
def laws_eqYard_enc (y : Bool) : Res T := ⟨[vR T 4 y], []⟩
theorem laws_eqYard_de (res : Res T) (y : Bool) (h : laws_eqYard_dec res = some y) : res = laws_eqYard_enc y := by
  obtain ⟨rets, outs⟩ := res
  unfold laws_eqYard_dec at h
  dsimp only at h
  split at h
  · obtain ⟨r0, h0, h⟩ := Option.bind_eq_some_iff.1 h
    cases h
    rw [retV_eq ok h0]
    rfl
  · cases h
def laws_eqStringS_dec (res : Res T) : Option Bool := match res.rets, res.outs with
  | [a0], [] => (retV (T := T) 4 a0).bind fun r0 => some (r0)
  | _, _ => none
def laws_eqStringS_enc (y : Bool) : Res T := ⟨[vR T 4 y], []⟩
theorem laws_eqStringS_de (res : Res T) (y : Bool) (h : laws_eqStringS_dec res = some y) : res = laws_eqStringS_enc y := by
  obtain ⟨rets, outs⟩ := res
  unfold laws_eqStringS_dec at h
  dsimp only at h
  split at h
  · obtain ⟨r0, h0, h⟩ := Option.bind_eq_some_iff.1 h
    cases h
    rw [retV_eq ok h0]
    rfl
  · cases h
def laws_eqBill_dec (res : Res T) : Option Bool := match res.rets, res.outs with
  | [a0], [] => (retV (T := T) 4 a0).bind fun r0 => some (r0)
  | _, _ => none
def laws_eqBill_enc (y : Bool) : Res T := ⟨[vR T 4 y], []⟩
theorem laws_eqBill_de (res : Res T) (y : Bool) (h : laws_eqBill_dec res = some y) : res = laws_eqBill_enc y := by
  obtain ⟨rets, outs⟩ := res
  unfold laws_eqBill_dec at h
  dsimp only at h
  split at h
  · obtain ⟨r0, h0, h⟩ := Option.bind_eq_some_iff.1 h
    cases h
    rw [retV_eq ok h0]
    rfl
  · cases h
def laws_eqBillS_dec (res : Res T) : Option Bool := match res.rets, res.outs with
  | [a0], [] => (retV (T := T) 4 a0).bind fun r0 => some (r0)
  | _, _ => none
def laws_eqBillS_enc (y : Bool) : Res T := ⟨[vR T 4 y], []⟩
theorem laws_eqBillS_de (res : Res T) (y : Bool) (h : laws_eqBillS_dec res = some y) : res = laws_eqBillS_enc y := by
  obtain ⟨rets, outs⟩ := res
  unfold laws_eqBillS_dec at h
  dsimp only at h
  split at h
  · obtain ⟨r0, h0, h⟩ := Option.bind_eq_some_iff.1 h
    cases h
    rw [retV_eq ok h0]
    rfl
  · cases h
def laws_eqBook_dec (res : Res T) : Option Bool := match res.rets, res.outs with
  | [a0], [] => (retV (T := T) 4 a0).bind fun r0 => some (r0)
  | _, _ => none
def laws_eqBook_enc (y : Bool) : Res T := ⟨[vR T 4 y], []⟩
theorem laws_eqBook_de (res : Res T) (y : Bool) (h : laws_eqBook_dec res = some y) : res = laws_eqBook_enc y := by
  obtain ⟨rets, outs⟩ := res
  unfold laws_eqBook_dec at h
  dsimp only at h
  split at h
  · obtain ⟨r0, h0, h⟩ := Option.bind_eq_some_iff.1 h
    cases h
    rw [retV_eq ok h0]
    rfl
  · cases h
def laws_eqLot_dec (res : Res T) : Option Bool := match res.rets, res.outs with
  | [a0], [] => (retV (T := T) 4 a0).bind fun r0 => some (r0)
  | _, _ => none
def laws_eqLot_enc (y : Bool) : Res T := ⟨[vR T 4 y], []⟩
theorem laws_eqLot_de (res : Res T) (y : Bool) (h : laws_eqLot_dec res = some y) : res = laws_eqLot_enc y := by
  obtain ⟨rets, outs⟩ := res
  unfold laws_eqLot_dec at h
  dsimp only at h
  split at h
  · obtain ⟨r0, h0, h⟩ := Option.bind_eq_some_iff.1 h
    cases h
    rw [retV_eq ok h0]
    rfl
  · cases h
def laws_eqLotS_dec (res : Res T) : Option Bool := match res.rets, res.outs with
  | [a0], [] => (retV (T := T) 4 a0).bind fun r0 => some (r0)
  | _, _ => none
def laws_eqLotS_enc (y : Bool) : Res T := ⟨[vR T 4 y], []⟩
theorem laws_eqLotS_de (res : Res T) (y : Bool) (h : laws_eqLotS_dec res = some y) : res = laws_eqLotS_enc y := by
  obtain ⟨rets, outs⟩ := res
  unfold laws_eqLotS_dec at h
  dsimp only at h
  split at h
  · obtain ⟨r0, h0, h⟩ := Option.bind_eq_some_iff.1 h
    cases h
    rw [retV_eq ok h0]
    rfl
  · cases h
def laws_eqTrader_dec (res : Res T) : Option Bool := match res.rets, res.outs with
  | [a0], [] => (retV (T := T) 4 a0).bind fun r0 => some (r0)
  | _, _ => none
def laws_eqTrader_enc (y : Bool) : Res T := ⟨[vR T 4 y], []⟩
theorem laws_eqTrader_de (res : Res T) (y : Bool) (h : laws_eqTrader_dec res = some y) : res = laws_eqTrader_enc y := by
  obtain ⟨rets, outs⟩ := res
  unfold laws_eqTrader_dec at h
  dsimp only at h
  split at h
  · obtain ⟨r0, h0, h⟩ := Option.bind_eq_some_iff.1 h
    cases h
    rw [retV_eq ok h0]
    rfl
  · cases h
def laws_eqTraderS_dec (res : Res T) : Option Bool := match res.rets, res.outs with
  | [a0], [] => (retV (T := T) 4 a0).bind fun r0 => some (r0)
  | _, _ => none
def laws_eqTraderS_enc (y : Bool) : Res T := ⟨[vR T 4 y], []⟩
theorem laws_eqTraderS_de (res : Res T) (y : Bool) (h : laws_eqTraderS_dec res = some y) : res = laws_eqTraderS_enc y := by
  obtain ⟨rets, outs⟩ := res
  unfold laws_eqTraderS_dec at h
  dsimp only at h
  split at h
  · obtain ⟨r0, h0, h⟩ := Option.bind_eq_some_iff.1 h
    cases h
    rw [retV_eq ok h0]
    rfl
  · cases h
def laws_eqHouse_dec (res : Res T) : Option Bool := match res.rets, res.outs with
  | [a0], [] => (retV (T := T) 4 a0).bind fun r0 => some (r0)
  | _, _ => none
def laws_eqHouse_enc (y : Bool) : Res T := ⟨[vR T 4 y], []⟩
theorem laws_eqHouse_de (res : Res T) (y : Bool) (h : laws_eqHouse_dec res = some y) : res = laws_eqHouse_enc y := by
  obtain ⟨rets, outs⟩ := res
  unfold laws_eqHouse_dec at h
  dsimp only at h
  split at h
  · obtain ⟨r0, h0, h⟩ := Option.bind_eq_some_iff.1 h
    cases h
    rw [retV_eq ok h0]
    rfl
  · cases h
def laws_eqPort_dec (res : Res T) : Option Bool := match res.rets, res.outs with
  | [a0], [] => (retV (T := T) 4 a0).bind fun r0 => some (r0)
  | _, _ => none
def laws_eqPort_enc (y : Bool) : Res T := ⟨[vR T 4 y], []⟩
theorem laws_eqPort_de (res : Res T) (y : Bool) (h : laws_eqPort_dec res = some y) : res = laws_eqPort_enc y := by
  obtain ⟨rets, outs⟩ := res
  unfold laws_eqPort_dec at h
  dsimp only at h
  split at h
  · obtain ⟨r0, h0, h⟩ := Option.bind_eq_some_iff.1 h
    cases h
    rw [retV_eq ok h0]
    rfl
  · cases h
def laws_markCallS_dec (res : Res T) : Option (Int × List SCall) := match res.rets, res.outs with
  | [a0], [b0] => (retV (T := T) 3 a0).bind fun r0 => (outS (T := T) 281 b0).bind fun r1 => some (r0, r1)
  | _, _ => none
def laws_markCallS_enc (y : Int × List SCall) : Res T := ⟨[vR T 3 y.1], [.sl 281 y.2]⟩
theorem laws_markCallS_de (res : Res T) (y : Int × List SCall) (h : laws_markCallS_dec res = some y) : res = laws_markCallS_enc y := by
  obtain ⟨rets, outs⟩ := res
  unfold laws_markCallS_dec at h
  dsimp only at h
  split at h
  · obtain ⟨r0, h0, h⟩ := Option.bind_eq_some_iff.1 h
    obtain ⟨r1, h1, h⟩ := Option.bind_eq_some_iff.1 h
    cases h
    rw [retV_eq ok h0, outS_eq h1]
    rfl
  · cases h
def laws_markIntS_dec (res : Res T) : Option (Int × List Int) := match res.rets, res.outs with
  | [a0], [b0] => (retV (T := T) 3 a0).bind fun r0 => (outS (T := T) 3 b0).bind fun r1 => some (r0, r1)
  | _, _ => none
def laws_markIntS_enc (y : Int × List Int) : Res T := ⟨[vR T 3 y.1], [.sl 3 y.2]⟩
theorem laws_markIntS_de (res : Res T) (y : Int × List Int) (h : laws_markIntS_dec res = some y) : res = laws_markIntS_enc y := by
  obtain ⟨rets, outs⟩ := res
  unfold laws_markIntS_dec at h
  dsimp only at h
  split at h
  · obtain ⟨r0, h0, h⟩ := Option.bind_eq_some_iff.1 h
    obtain ⟨r1, h1, h⟩ := Option.bind_eq_some_iff.1 h
    cases h
    rw [retV_eq ok h0, outS_eq h1]
    rfl
  · cases h
def laws_markIntSS_dec (res : Res T) : Option (Int × List (List Int)) := match res.rets, res.outs with
  | [a0], [b0] => (retV (T := T) 3 a0).bind fun r0 => (outS (T := T) 55 b0).bind fun r1 => some (r0, r1)
  | _, _ => none
def laws_markIntSS_enc (y : Int × List (List Int)) : Res T := ⟨[vR T 3 y.1], [.sl 55 y.2]⟩
theorem laws_markIntSS_de (res : Res T) (y : Int × List (List Int)) (h : laws_markIntSS_dec res = some y) : res = laws_markIntSS_enc y := by
  obtain ⟨rets, outs⟩ := res
  unfold laws_markIntSS_dec at h
  dsimp only at h
  split at h
  · obtain ⟨r0, h0, h⟩ := Option.bind_eq_some_iff.1 h
    obtain ⟨r1, h1, h⟩ := Option.bind_eq_some_iff.1 h
    cases h
    rw [retV_eq ok h0, outS_eq h1]
    rfl
  · cases h
def laws_markYard_dec (res : Res T) : Option (Int × List (List Int)) := match res.rets, res.outs with
  | [a0], [b0] => (retV (T := T) 3 a0).bind fun r0 => (outS (T := T) 55 b0).bind fun r1 => some (r0, r1)
  | _, _ => none
def laws_markYard_enc (y : Int × List (List Int)) : Res T := ⟨[vR T 3 y.1], [.sl 55 y.2]⟩
theorem laws_markYard_de (res : Res T) (y : Int × List (List Int)) (h : laws_markYard_dec res = some y) : res = laws_markYard_enc y := by
  obtain ⟨rets, outs⟩ := res
  unfold laws_markYard_dec at h
  dsimp only at h
  split at h
  · obtain ⟨r0, h0, h⟩ := Option.bind_eq_some_iff.1 h
    obtain ⟨r1, h1, h⟩ := Option.bind_eq_some_iff.1 h
    cases h
    rw [retV_eq ok h0, outS_eq h1]
    rfl
  · cases h
def laws_markText_dec (res : Res T) : Option ByteArray := match res.rets, res.outs with
  | [a0], [] => (retV (T := T) 9 a0).bind fun r0 => some (r0)
  | _, _ => none
def laws_markText_enc (y : ByteArray) : Res T := ⟨[vR T 9 y], []⟩
theorem laws_markText_de (res : Res T) (y : ByteArray) (h : laws_markText_dec res = some y) : res = laws_markText_enc y := by
  obtain ⟨rets, outs⟩ := res
  unfold laws_markText_dec at h
  dsimp only at h
  split at h
  · obtain ⟨r0, h0, h⟩ := Option.bind_eq_some_iff.1 h
    cases h
    rw [retV_eq ok h0]
    rfl
  · cases h
def laws_markStringS_dec (res : Res T) : Option (Int × List ByteArray) := match res.rets, res.outs with
  | [a0], [b0] => (retV (T := T) 3 a0).bind fun r0 => (outS (T := T) 9 b0).bind fun r1 => some (r0, r1)
  | _, _ => none
def laws_markStringS_enc (y : Int × List ByteArray) : Res T := ⟨[vR T 3 y.1], [.sl 9 y.2]⟩
theorem laws_markStringS_de (res : Res T) (y : Int × List ByteArray) (h : laws_markStringS_dec res = some y) : res = laws_markStringS_enc y := by
  obtain ⟨rets, outs⟩ := res
  unfold laws_markStringS_dec at h
  dsimp only at h
  split at h
  · obtain ⟨r0, h0, h⟩ := Option.bind_eq_some_iff.1 h
    obtain ⟨r1, h1, h⟩ := Option.bind_eq_some_iff.1 h
    cases h
    rw [retV_eq ok h0, outS_eq h1]
    rfl
  · cases h
def laws_markBillS_dec (res : Res T) : Option (Int × List SBill) := match res.rets, res.outs with
  | [a0], [b0] => (retV (T := T) 3 a0).bind fun r0 => (outS (T := T) 304 b0).bind fun r1 => some (r0, r1)
  | _, _ => none
def laws_markBillS_enc (y : Int × List SBill) : Res T := ⟨[vR T 3 y.1], [.sl 304 y.2]⟩
theorem laws_markBillS_de (res : Res T) (y : Int × List SBill) (h : laws_markBillS_dec res = some y) : res = laws_markBillS_enc y := by
  obtain ⟨rets, outs⟩ := res
  unfold laws_markBillS_dec at h
  dsimp only at h
  split at h
  · obtain ⟨r0, h0, h⟩ := Option.bind_eq_some_iff.1 h
    obtain ⟨r1, h1, h⟩ := Option.bind_eq_some_iff.1 h
    cases h
    rw [retV_eq ok h0, outS_eq h1]
    rfl
  · cases h
def laws_markBook_dec (res : Res T) : Option (Int × List SBill × List Int) := match res.rets, res.outs with
  | [a0], [b0, b1] => (retV (T := T) 3 a0).bind fun r0 => (outS (T := T) 304 b0).bind fun r1 => (outS (T := T) 3 b1).bind fun r2 => some (r0, r1, r2)
  | _, _ => none
def laws_markBook_enc (y : Int × List SBill × List Int) : Res T := ⟨[vR T 3 y.1], [.sl 304 y.2.1, .sl 3 y.2.2]⟩
theorem laws_markBook_de (res : Res T) (y : Int × List SBill × List Int) (h : laws_markBook_dec res = some y) : res = laws_markBook_enc y := by
  obtain ⟨rets, outs⟩ := res
  unfold laws_markBook_dec at h
  dsimp only at h
  split at h
  · obtain ⟨r0, h0, h⟩ := Option.bind_eq_some_iff.1 h
    obtain ⟨r1, h1, h⟩ := Option.bind_eq_some_iff.1 h
    obtain ⟨r2, h2, h⟩ := Option.bind_eq_some_iff.1 h
    cases h
    rw [retV_eq ok h0, outS_eq h1, outS_eq h2]
    rfl
  · cases h
def laws_markLotS_dec (res : Res T) : Option (Int × List SLot) := match res.rets, res.outs with
  | [a0], [b0] => (retV (T := T) 3 a0).bind fun r0 => (outS (T := T) 307 b0).bind fun r1 => some (r0, r1)
  | _, _ => none
def laws_markLotS_enc (y : Int × List SLot) : Res T := ⟨[vR T 3 y.1], [.sl 307 y.2]⟩
theorem laws_markLotS_de (res : Res T) (y : Int × List SLot) (h : laws_markLotS_dec res = some y) : res = laws_markLotS_enc y := by
  obtain ⟨rets, outs⟩ := res
  unfold laws_markLotS_dec at h
  dsimp only at h
  split at h
  · obtain ⟨r0, h0, h⟩ := Option.bind_eq_some_iff.1 h
    obtain ⟨r1, h1, h⟩ := Option.bind_eq_some_iff.1 h
    cases h
    rw [retV_eq ok h0, outS_eq h1]
    rfl
  · cases h
def laws_markTraderS_dec (res : Res T) : Option (Int × List STrader) := match res.rets, res.outs with
  | [a0], [b0] => (retV (T := T) 3 a0).bind fun r0 => (outS (T := T) 229 b0).bind fun r1 => some (r0, r1)
  | _, _ => none
def laws_markTraderS_enc (y : Int × List STrader) : Res T := ⟨[vR T 3 y.1], [.sl 229 y.2]⟩
theorem laws_markTraderS_de (res : Res T) (y : Int × List STrader) (h : laws_markTraderS_dec res = some y) : res = laws_markTraderS_enc y := by
  obtain ⟨rets, outs⟩ := res
  unfold laws_markTraderS_dec at h
  dsimp only at h
  split at h
  · obtain ⟨r0, h0, h⟩ := Option.bind_eq_some_iff.1 h
    obtain ⟨r1, h1, h⟩ := Option.bind_eq_some_iff.1 h
    cases h
    rw [retV_eq ok h0, outS_eq h1]
    rfl
  · cases h
def laws_markHouse_dec (res : Res T) : Option (Int × List SLot × List STrader) := match res.rets, res.outs with
  | [a0], [b0, b1] => (retV (T := T) 3 a0).bind fun r0 => (outS (T := T) 307 b0).bind fun r1 => (outS (T := T) 229 b1).bind fun r2 => some (r0, r1, r2)
  | _, _ => none
def laws_markHouse_enc (y : Int × List SLot × List STrader) : Res T := ⟨[vR T 3 y.1], [.sl 307 y.2.1, .sl 229 y.2.2]⟩
theorem laws_markHouse_de (res : Res T) (y : Int × List SLot × List STrader) (h : laws_markHouse_dec res = some y) : res = laws_markHouse_enc y := by
  obtain ⟨rets, outs⟩ := res
  unfold laws_markHouse_dec at h
  dsimp only at h
  split at h
  · obtain ⟨r0, h0, h⟩ := Option.bind_eq_some_iff.1 h
    obtain ⟨r1, h1, h⟩ := Option.bind_eq_some_iff.1 h
    obtain ⟨r2, h2, h⟩ := Option.bind_eq_some_iff.1 h
    cases h
    rw [retV_eq ok h0, outS_eq h1, outS_eq h2]
    rfl
  · cases h
def laws_markPort_dec (res : Res T) : Option (Int × List SCall × List (List Int) × List SBill × List Int × List SLot × List STrader) := match res.rets, res.outs with
  | [a0], [b0, b1, b2, b3, b4, b5] => (retV (T := T) 3 a0).bind fun r0 => (outS (T := T) 281 b0).bind fun r1 => (outS (T := T) 55 b1).bind fun r2 => (outS (T := T) 304 b2).bind fun r3 => (outS (T := T) 3 b3).bind fun r4 => (outS (T := T) 307 b4).bind fun r5 => (outS (T := T) 229 b5).bind fun r6 => some (r0, r1, r2, r3, r4, r5, r6)
  | _, _ => none
def laws_markPort_enc (y : Int × List SCall × List (List Int) × List SBill × List Int × List SLot × List STrader) : Res T := ⟨[vR T 3 y.1], [.sl 281 y.2.1, .sl 55 y.2.2.1, .sl 304 y.2.2.2.1, .sl 3 y.2.2.2.2.1, .sl 307 y.2.2.2.2.2.1, .sl 229 y.2.2.2.2.2.2]⟩
theorem laws_markPort_de (res : Res T) (y : Int × List SCall × List (List Int) × List SBill × List Int × List SLot × List STrader) (h : laws_markPort_dec res = some y) : res = laws_markPort_enc y := by
  obtain ⟨rets, outs⟩ := res
  unfold laws_markPort_dec at h
  dsimp only at h
  split at h
  · obtain ⟨r0, h0, h⟩ := Option.bind_eq_some_iff.1 h
    obtain ⟨r1, h1, h⟩ := Option.bind_eq_some_iff.1 h
    obtain ⟨r2, h2, h⟩ := Option.bind_eq_some_iff.1 h
    obtain ⟨r3, h3, h⟩ := Option.bind_eq_some_iff.1 h
    obtain ⟨r4, h4, h⟩ := Option.bind_eq_some_iff.1 h
    obtain ⟨r5, h5, h⟩ := Option.bind_eq_some_iff.1 h
    obtain ⟨r6, h6, h⟩ := Option.bind_eq_some_iff.1 h
    cases h
    rw [retV_eq ok h0, outS_eq h1, outS_eq h2, outS_eq h3, outS_eq h4, outS_eq h5, outS_eq h6]
    rfl
  · cases h
def laws_heldCallS_dec (res : Res T) : Option Int := match res.rets, res.outs with
  | [a0], [] => (retV (T := T) 3 a0).bind fun r0 => some (r0)
  | _, _ => none
def laws_heldCallS_enc (y : Int) : Res T := ⟨[vR T 3 y], []⟩
theorem laws_heldCallS_de (res : Res T) (y : Int) (h : laws_heldCallS_dec res = some y) : res = laws_heldCallS_enc y := by
  obtain ⟨rets, outs⟩ := res
  unfold laws_heldCallS_dec at h
  dsimp only at h
  split at h
  · obtain ⟨r0, h0, h⟩ := Option.bind_eq_some_iff.1 h
    cases h
    rw [retV_eq ok h0]
    rfl
  · cases h
def laws_heldIntS_dec (res : Res T) : Option Int := match res.rets, res.outs with
  | [a0], [] => (retV (T := T) 3 a0).bind fun r0 => some (r0)
  | _, _ => none
def laws_heldIntS_enc (y : Int) : Res T := ⟨[vR T 3 y], []⟩
theorem laws_heldIntS_de (res : Res T) (y : Int) (h : laws_heldIntS_dec res = some y) : res = laws_heldIntS_enc y := by
  obtain ⟨rets, outs⟩ := res
  unfold laws_heldIntS_dec at h
  dsimp only at h
  split at h
  · obtain ⟨r0, h0, h⟩ := Option.bind_eq_some_iff.1 h
    cases h
    rw [retV_eq ok h0]
    rfl
  · cases h
def laws_heldIntSS_dec (res : Res T) : Option Int := match res.rets, res.outs with
  | [a0], [] => (retV (T := T) 3 a0).bind fun r0 => some (r0)
  | _, _ => none
def laws_heldIntSS_enc (y : Int) : Res T := ⟨[vR T 3 y], []⟩
theorem laws_heldIntSS_de (res : Res T) (y : Int) (h : laws_heldIntSS_dec res = some y) : res = laws_heldIntSS_enc y := by
  obtain ⟨rets, outs⟩ := res
  unfold laws_heldIntSS_dec at h
  dsimp only at h
  split at h
  · obtain ⟨r0, h0, h⟩ := Option.bind_eq_some_iff.1 h
    cases h
    rw [retV_eq ok h0]
    rfl
  · cases h
def laws_heldYard_dec (res : Res T) : Option Int := match res.rets, res.outs with
  | [a0], [] => (retV (T := T) 3 a0).bind fun r0 => some (r0)
  | _, _ => none
def laws_heldYard_enc (y : Int) : Res T := ⟨[vR T 3 y], []⟩
theorem laws_heldYard_de (res : Res T) (y : Int) (h : laws_heldYard_dec res = some y) : res = laws_heldYard_enc y := by
  obtain ⟨rets, outs⟩ := res
  unfold laws_heldYard_dec at h
  dsimp only at h
  split at h
  · obtain ⟨r0, h0, h⟩ := Option.bind_eq_some_iff.1 h
    cases h
    rw [retV_eq ok h0]
    rfl
  · cases h
def laws_heldStringS_dec (res : Res T) : Option Int := match res.rets, res.outs with
  | [a0], [] => (retV (T := T) 3 a0).bind fun r0 => some (r0)
  | _, _ => none
def laws_heldStringS_enc (y : Int) : Res T := ⟨[vR T 3 y], []⟩
theorem laws_heldStringS_de (res : Res T) (y : Int) (h : laws_heldStringS_dec res = some y) : res = laws_heldStringS_enc y := by
  obtain ⟨rets, outs⟩ := res
  unfold laws_heldStringS_dec at h
  dsimp only at h
  split at h
  · obtain ⟨r0, h0, h⟩ := Option.bind_eq_some_iff.1 h
    cases h
    rw [retV_eq ok h0]
    rfl
  · cases h
def laws_heldBillS_dec (res : Res T) : Option Int := match res.rets, res.outs with
  | [a0], [] => (retV (T := T) 3 a0).bind fun r0 => some (r0)
  | _, _ => none
def laws_heldBillS_enc (y : Int) : Res T := ⟨[vR T 3 y], []⟩
theorem laws_heldBillS_de (res : Res T) (y : Int) (h : laws_heldBillS_dec res = some y) : res = laws_heldBillS_enc y := by
  obtain ⟨rets, outs⟩ := res
  unfold laws_heldBillS_dec at h
  dsimp only at h
  split at h
  · obtain ⟨r0, h0, h⟩ := Option.bind_eq_some_iff.1 h
    cases h
    rw [retV_eq ok h0]
    rfl
  · cases h
def laws_heldBook_dec (res : Res T) : Option Int := match res.rets, res.outs with
  | [a0], [] => (retV (T := T) 3 a0).bind fun r0 => some (r0)
  | _, _ => none
def laws_heldBook_enc (y : Int) : Res T := ⟨[vR T 3 y], []⟩
theorem laws_heldBook_de (res : Res T) (y : Int) (h : laws_heldBook_dec res = some y) : res = laws_heldBook_enc y := by
  obtain ⟨rets, outs⟩ := res
  unfold laws_heldBook_dec at h
  dsimp only at h
  split at h
  · obtain ⟨r0, h0, h⟩ := Option.bind_eq_some_iff.1 h
    cases h
    rw [retV_eq ok h0]
    rfl
  · cases h
def laws_heldLotS_dec (res : Res T) : Option Int := match res.rets, res.outs with
  | [a0], [] => (retV (T := T) 3 a0).bind fun r0 => some (r0)
  | _, _ => none
def laws_heldLotS_enc (y : Int) : Res T := ⟨[vR T 3 y], []⟩
theorem laws_heldLotS_de (res : Res T) (y : Int) (h : laws_heldLotS_dec res = some y) : res = laws_heldLotS_enc y := by
  obtain ⟨rets, outs⟩ := res
  unfold laws_heldLotS_dec at h
  dsimp only at h
  split at h
  · obtain ⟨r0, h0, h⟩ := Option.bind_eq_some_iff.1 h
    cases h
    rw [retV_eq ok h0]
    rfl
  · cases h
def laws_heldTraderS_dec (res : Res T) : Option Int := match res.rets, res.outs with
  | [a0], [] => (retV (T := T) 3 a0).bind fun r0 => some (r0)
  | _, _ => none
def laws_heldTraderS_enc (y : Int) : Res T := ⟨[vR T 3 y], []⟩
theorem laws_heldTraderS_de (res : Res T) (y : Int) (h : laws_heldTraderS_dec res = some y) : res = laws_heldTraderS_enc y := by
  obtain ⟨rets, outs⟩ := res
  unfold laws_heldTraderS_dec at h
  dsimp only at h
  split at h
  · obtain ⟨r0, h0, h⟩ := Option.bind_eq_some_iff.1 h
    cases h
    rw [retV_eq ok h0]
    rfl
  · cases h
def laws_heldHouse_dec (res : Res T) : Option Int := match res.rets, res.outs with
  | [a0], [] => (retV (T := T) 3 a0).bind fun r0 => some (r0)
  | _, _ => none
def laws_heldHouse_enc (y : Int) : Res T := ⟨[vR T 3 y], []⟩
theorem laws_heldHouse_de (res : Res T) (y : Int) (h : laws_heldHouse_dec res = some y) : res = laws_heldHouse_enc y := by
  obtain ⟨rets, outs⟩ := res
  unfold laws_heldHouse_dec at h
  dsimp only at h
  split at h
  · obtain ⟨r0, h0, h⟩ := Option.bind_eq_some_iff.1 h
    cases h
    rw [retV_eq ok h0]
    rfl
  · cases h
def laws_heldPort_dec (res : Res T) : Option Int := match res.rets, res.outs with
  | [a0], [] => (retV (T := T) 3 a0).bind fun r0 => some (r0)
  | _, _ => none
def laws_heldPort_enc (y : Int) : Res T := ⟨[vR T 3 y], []⟩
theorem laws_heldPort_de (res : Res T) (y : Int) (h : laws_heldPort_dec res = some y) : res = laws_heldPort_enc y := by
  obtain ⟨rets, outs⟩ := res
  unfold laws_heldPort_dec at h
  dsimp only at h
  split at h
  · obtain ⟨r0, h0, h⟩ := Option.bind_eq_some_iff.1 h
    cases h
    rw [retV_eq ok h0]
    rfl
  · cases h
def laws_FnExactNewPort_dec (res : Res T) : Option Bool := match res.rets, res.outs with
  | [a0], [] => (retV (T := T) 4 a0).bind fun r0 => some (r0)
  | _, _ => none
def laws_FnExactNewPort_enc (y : Bool) : Res T := ⟨[vR T 4 y], []⟩
theorem laws_FnExactNewPort_de (res : Res T) (y : Bool) (h : laws_FnExactNewPort_dec res = some y) : res = laws_FnExactNewPort_enc y := by
  obtain ⟨rets, outs⟩ := res
  unfold laws_FnExactNewPort_dec at h
  dsimp only at h
  split at h
  · obtain ⟨r0, h0, h⟩ := Option.bind_eq_some_iff.1 h
    cases h
    rw [retV_eq ok h0]
    rfl
  · cases h
def spec_NewPort_D (n : Nat) (r0 : List (A T)) : Option SPort := onil r0 (spec_NewPort n)
def spec_NewPort_ent (n : Nat) : Ent T := ⟨82, 0, [], SPort, spec_NewPort_D n, spec_NewPort_enc⟩
def impl_NewPort_D (n : Nat) (r0 : List (A T)) : Option SPort := onil r0 (impl_NewPort n)
def impl_NewPort_ent (n : Nat) : Ent T := ⟨83, 1, [], SPort, impl_NewPort_D n, impl_NewPort_enc⟩
def laws_eqCall_D (n : Nat) (r0 : List (A T)) : Option Bool := ocons r0 fun a0 r1 => ocons r1 fun a1 r2 => onil r2 (obind (argV (T := T) 281 a0) fun a0 => obind (argV (T := T) 281 a1) fun b1 => laws_eqCall n a0 b1)
def laws_eqCall_ent (n : Nat) : Ent T := ⟨225, 2, [], Bool, laws_eqCall_D n, laws_eqCall_enc⟩
def laws_eqCallS_D (n : Nat) (r0 : List (A T)) : Option Bool := ocons r0 fun a0 r1 => ocons r1 fun a1 r2 => onil r2 (obind (argV (T := T) 136 a0) fun a0 => obind (argV (T := T) 136 a1) fun b1 => laws_eqCallS n a0 b1)
def laws_eqCallS_ent (n : Nat) : Ent T := ⟨163, 3, [], Bool, laws_eqCallS_D n, laws_eqCallS_enc⟩
def laws_eqIntS_D (n : Nat) (r0 : List (A T)) : Option Bool := ocons r0 fun a0 r1 => ocons r1 fun a1 r2 => onil r2 (obind (argV (T := T) 55 a0) fun a0 => obind (argV (T := T) 55 a1) fun b1 => laws_eqIntS n a0 b1)
def laws_eqIntS_ent (n : Nat) : Ent T := ⟨37, 4, [], Bool, laws_eqIntS_D n, laws_eqIntS_enc⟩
def laws_eqIntSS_D (n : Nat) (r0 : List (A T)) : Option Bool := ocons r0 fun a0 r1 => ocons r1 fun a1 r2 => onil r2 (obind (argV (T := T) 24 a0) fun a0 => obind (argV (T := T) 24 a1) fun b1 => laws_eqIntSS n a0 b1)
def laws_eqIntSS_ent (n : Nat) : Ent T := ⟨106, 5, [], Bool, laws_eqIntSS_D n, laws_eqIntSS_enc⟩
def laws_eqYard_D (n : Nat) (r0 : List (A T)) : Option Bool := ocons r0 fun a0 r1 => ocons r1 fun a1 r2 => onil r2 (obind (argV (T := T) 123 a0) fun a0 => obind (argV (T := T) 123 a1) fun b1 => laws_eqYard n a0 b1)
def laws_eqYard_ent (n : Nat) : Ent T := ⟨164, 6, [], Bool, laws_eqYard_D n, laws_eqYard_enc⟩
def laws_eqStringS_D (n : Nat) (r0 : List (A T)) : Option Bool := ocons r0 fun a0 r1 => ocons r1 fun a1 r2 => onil r2 (obind (argV (T := T) 270 a0) fun a0 => obind (argV (T := T) 270 a1) fun b1 => laws_eqStringS n a0 b1)
def laws_eqStringS_ent (n : Nat) : Ent T := ⟨270, 7, [], Bool, laws_eqStringS_D n, laws_eqStringS_enc⟩
def laws_eqBill_D (n : Nat) (r0 : List (A T)) : Option Bool := ocons r0 fun a0 r1 => ocons r1 fun a1 r2 => onil r2 (obind (argV (T := T) 304 a0) fun a0 => obind (argV (T := T) 304 a1) fun b1 => laws_eqBill n a0 b1)
def laws_eqBill_ent (n : Nat) : Ent T := ⟨252, 8, [], Bool, laws_eqBill_D n, laws_eqBill_enc⟩
def laws_eqBillS_D (n : Nat) (r0 : List (A T)) : Option Bool := ocons r0 fun a0 r1 => ocons r1 fun a1 r2 => onil r2 (obind (argV (T := T) 137 a0) fun a0 => obind (argV (T := T) 137 a1) fun b1 => laws_eqBillS n a0 b1)
def laws_eqBillS_ent (n : Nat) : Ent T := ⟨226, 9, [], Bool, laws_eqBillS_D n, laws_eqBillS_enc⟩
def laws_eqBook_D (n : Nat) (r0 : List (A T)) : Option Bool := ocons r0 fun a0 r1 => ocons r1 fun a1 r2 => onil r2 (obind (argV (T := T) 139 a0) fun a0 => obind (argV (T := T) 139 a1) fun b1 => laws_eqBook n a0 b1)
def laws_eqBook_ent (n : Nat) : Ent T := ⟨165, 10, [], Bool, laws_eqBook_D n, laws_eqBook_enc⟩
def laws_eqLot_D (n : Nat) (r0 : List (A T)) : Option Bool := ocons r0 fun a0 r1 => ocons r1 fun a1 r2 => onil r2 (obind (argV (T := T) 307 a0) fun a0 => obind (argV (T := T) 307 a1) fun b1 => laws_eqLot n a0 b1)
def laws_eqLot_ent (n : Nat) : Ent T := ⟨253, 11, [], Bool, laws_eqLot_D n, laws_eqLot_enc⟩
def laws_eqLotS_D (n : Nat) (r0 : List (A T)) : Option Bool := ocons r0 fun a0 r1 => ocons r1 fun a1 r2 => onil r2 (obind (argV (T := T) 140 a0) fun a0 => obind (argV (T := T) 140 a1) fun b1 => laws_eqLotS n a0 b1)
def laws_eqLotS_ent (n : Nat) : Ent T := ⟨227, 12, [], Bool, laws_eqLotS_D n, laws_eqLotS_enc⟩
def laws_eqTrader_D (n : Nat) (r0 : List (A T)) : Option Bool := ocons r0 fun a0 r1 => ocons r1 fun a1 r2 => onil r2 (obind (argV (T := T) 229 a0) fun a0 => obind (argV (T := T) 229 a1) fun b1 => laws_eqTrader n a0 b1)
def laws_eqTrader_ent (n : Nat) : Ent T := ⟨254, 13, [], Bool, laws_eqTrader_D n, laws_eqTrader_enc⟩
def laws_eqTraderS_D (n : Nat) (r0 : List (A T)) : Option Bool := ocons r0 fun a0 r1 => ocons r1 fun a1 r2 => onil r2 (obind (argV (T := T) 141 a0) fun a0 => obind (argV (T := T) 141 a1) fun b1 => laws_eqTraderS n a0 b1)
def laws_eqTraderS_ent (n : Nat) : Ent T := ⟨228, 14, [], Bool, laws_eqTraderS_D n, laws_eqTraderS_enc⟩
def laws_eqHouse_D (n : Nat) (r0 : List (A T)) : Option Bool := ocons r0 fun a0 r1 => ocons r1 fun a1 r2 => onil r2 (obind (argV (T := T) 143 a0) fun a0 => obind (argV (T := T) 143 a1) fun b1 => laws_eqHouse n a0 b1)
def laws_eqHouse_ent (n : Nat) : Ent T := ⟨166, 15, [], Bool, laws_eqHouse_D n, laws_eqHouse_enc⟩
def laws_eqPort_D (n : Nat) (r0 : List (A T)) : Option Bool := ocons r0 fun a0 r1 => ocons r1 fun a1 r2 => onil r2 (obind (argV (T := T) 145 a0) fun a0 => obind (argV (T := T) 145 a1) fun b1 => laws_eqPort n a0 b1)
def laws_eqPort_ent (n : Nat) : Ent T := ⟨84, 16, [], Bool, laws_eqPort_D n, laws_eqPort_enc⟩
def laws_markCallS_D (n : Nat) (r0 : List (A T)) : Option (Int × List SCall) := ocons r0 fun a0 r1 => ocons r1 fun a1 r2 => onil r2 (obind (argV (T := T) 136 a0) fun a0 => obind (argV (T := T) 3 a1) fun k1 => laws_markCallS n a0 k1)
def laws_markCallS_ent (n : Nat) : Ent T := ⟨167, 17, [], Int × List SCall, laws_markCallS_D n, laws_markCallS_enc⟩
def laws_markIntS_D (n : Nat) (r0 : List (A T)) : Option (Int × List Int) := ocons r0 fun a0 r1 => ocons r1 fun a1 r2 => onil r2 (obind (argV (T := T) 55 a0) fun a0 => obind (argV (T := T) 3 a1) fun k1 => laws_markIntS n a0 k1)
def laws_markIntS_ent (n : Nat) : Ent T := ⟨40, 18, [], Int × List Int, laws_markIntS_D n, laws_markIntS_enc⟩
def laws_markIntSS_D (n : Nat) (r0 : List (A T)) : Option (Int × List (List Int)) := ocons r0 fun a0 r1 => ocons r1 fun a1 r2 => onil r2 (obind (argV (T := T) 24 a0) fun a0 => obind (argV (T := T) 3 a1) fun k1 => laws_markIntSS n a0 k1)
def laws_markIntSS_ent (n : Nat) : Ent T := ⟨108, 19, [], Int × List (List Int), laws_markIntSS_D n, laws_markIntSS_enc⟩
def laws_markYard_D (n : Nat) (r0 : List (A T)) : Option (Int × List (List Int)) := ocons r0 fun a0 r1 => ocons r1 fun a1 r2 => onil r2 (obind (argV (T := T) 123 a0) fun a0 => obind (argV (T := T) 3 a1) fun k1 => laws_markYard n a0 k1)
def laws_markYard_ent (n : Nat) : Ent T := ⟨168, 20, [], Int × List (List Int), laws_markYard_D n, laws_markYard_enc⟩
def laws_markText_D (n : Nat) (r0 : List (A T)) : Option ByteArray := ocons r0 fun a0 r1 => onil r1 (obind (argV (T := T) 3 a0) fun k0 => laws_markText n k0)
def laws_markText_ent (n : Nat) : Ent T := ⟨194, 21, [], ByteArray, laws_markText_D n, laws_markText_enc⟩
def laws_markStringS_D (n : Nat) (r0 : List (A T)) : Option (Int × List ByteArray) := ocons r0 fun a0 r1 => ocons r1 fun a1 r2 => onil r2 (obind (argV (T := T) 270 a0) fun a0 => obind (argV (T := T) 3 a1) fun k1 => laws_markStringS n a0 k1)
def laws_markStringS_ent (n : Nat) : Ent T := ⟨255, 22, [], Int × List ByteArray, laws_markStringS_D n, laws_markStringS_enc⟩
def laws_markBillS_D (n : Nat) (r0 : List (A T)) : Option (Int × List SBill) := ocons r0 fun a0 r1 => ocons r1 fun a1 r2 => onil r2 (obind (argV (T := T) 137 a0) fun a0 => obind (argV (T := T) 3 a1) fun k1 => laws_markBillS n a0 k1)
def laws_markBillS_ent (n : Nat) : Ent T := ⟨229, 23, [], Int × List SBill, laws_markBillS_D n, laws_markBillS_enc⟩
def laws_markBook_D (n : Nat) (r0 : List (A T)) : Option (Int × List SBill × List Int) := ocons r0 fun a0 r1 => ocons r1 fun a1 r2 => onil r2 (obind (argV (T := T) 139 a0) fun a0 => obind (argV (T := T) 3 a1) fun k1 => laws_markBook n a0 k1)
def laws_markBook_ent (n : Nat) : Ent T := ⟨169, 24, [], Int × List SBill × List Int, laws_markBook_D n, laws_markBook_enc⟩
def laws_markLotS_D (n : Nat) (r0 : List (A T)) : Option (Int × List SLot) := ocons r0 fun a0 r1 => ocons r1 fun a1 r2 => onil r2 (obind (argV (T := T) 140 a0) fun a0 => obind (argV (T := T) 3 a1) fun k1 => laws_markLotS n a0 k1)
def laws_markLotS_ent (n : Nat) : Ent T := ⟨230, 25, [], Int × List SLot, laws_markLotS_D n, laws_markLotS_enc⟩
def laws_markTraderS_D (n : Nat) (r0 : List (A T)) : Option (Int × List STrader) := ocons r0 fun a0 r1 => ocons r1 fun a1 r2 => onil r2 (obind (argV (T := T) 141 a0) fun a0 => obind (argV (T := T) 3 a1) fun k1 => laws_markTraderS n a0 k1)
def laws_markTraderS_ent (n : Nat) : Ent T := ⟨231, 26, [], Int × List STrader, laws_markTraderS_D n, laws_markTraderS_enc⟩
def laws_markHouse_D (n : Nat) (r0 : List (A T)) : Option (Int × List SLot × List STrader) := ocons r0 fun a0 r1 => ocons r1 fun a1 r2 => onil r2 (obind (argV (T := T) 143 a0) fun a0 => obind (argV (T := T) 3 a1) fun k1 => laws_markHouse n a0 k1)
def laws_markHouse_ent (n : Nat) : Ent T := ⟨170, 27, [], Int × List SLot × List STrader, laws_markHouse_D n, laws_markHouse_enc⟩
def laws_markPort_D (n : Nat) (r0 : List (A T)) : Option (Int × List SCall × List (List Int) × List SBill × List Int × List SLot × List STrader) := ocons r0 fun a0 r1 => ocons r1 fun a1 r2 => onil r2 (obind (argV (T := T) 145 a0) fun a0 => obind (argV (T := T) 3 a1) fun k1 => laws_markPort n a0 k1)
def laws_markPort_ent (n : Nat) : Ent T := ⟨85, 28, [], Int × List SCall × List (List Int) × List SBill × List Int × List SLot × List STrader, laws_markPort_D n, laws_markPort_enc⟩
def laws_heldCallS_D (n : Nat) (r0 : List (A T)) : Option Int := ocons r0 fun a0 r1 => ocons r1 fun a1 r2 => onil r2 (obind (argV (T := T) 136 a0) fun a0 => obind (argV (T := T) 3 a1) fun k1 => laws_heldCallS n a0 k1)
def laws_heldCallS_ent (n : Nat) : Ent T := ⟨171, 29, [], Int, laws_heldCallS_D n, laws_heldCallS_enc⟩
def laws_heldIntS_D (n : Nat) (r0 : List (A T)) : Option Int := ocons r0 fun a0 r1 => ocons r1 fun a1 r2 => onil r2 (obind (argV (T := T) 55 a0) fun a0 => obind (argV (T := T) 3 a1) fun k1 => laws_heldIntS n a0 k1)
def laws_heldIntS_ent (n : Nat) : Ent T := ⟨41, 30, [], Int, laws_heldIntS_D n, laws_heldIntS_enc⟩
def laws_heldIntSS_D (n : Nat) (r0 : List (A T)) : Option Int := ocons r0 fun a0 r1 => ocons r1 fun a1 r2 => onil r2 (obind (argV (T := T) 24 a0) fun a0 => obind (argV (T := T) 3 a1) fun k1 => laws_heldIntSS n a0 k1)
def laws_heldIntSS_ent (n : Nat) : Ent T := ⟨109, 31, [], Int, laws_heldIntSS_D n, laws_heldIntSS_enc⟩
def laws_heldYard_D (n : Nat) (r0 : List (A T)) : Option Int := ocons r0 fun a0 r1 => ocons r1 fun a1 r2 => onil r2 (obind (argV (T := T) 123 a0) fun a0 => obind (argV (T := T) 3 a1) fun k1 => laws_heldYard n a0 k1)
def laws_heldYard_ent (n : Nat) : Ent T := ⟨172, 32, [], Int, laws_heldYard_D n, laws_heldYard_enc⟩
def laws_heldStringS_D (n : Nat) (r0 : List (A T)) : Option Int := ocons r0 fun a0 r1 => ocons r1 fun a1 r2 => onil r2 (obind (argV (T := T) 270 a0) fun a0 => obind (argV (T := T) 3 a1) fun k1 => laws_heldStringS n a0 k1)
def laws_heldStringS_ent (n : Nat) : Ent T := ⟨256, 33, [], Int, laws_heldStringS_D n, laws_heldStringS_enc⟩
def laws_heldBillS_D (n : Nat) (r0 : List (A T)) : Option Int := ocons r0 fun a0 r1 => ocons r1 fun a1 r2 => onil r2 (obind (argV (T := T) 137 a0) fun a0 => obind (argV (T := T) 3 a1) fun k1 => laws_heldBillS n a0 k1)
def laws_heldBillS_ent (n : Nat) : Ent T := ⟨232, 34, [], Int, laws_heldBillS_D n, laws_heldBillS_enc⟩
def laws_heldBook_D (n : Nat) (r0 : List (A T)) : Option Int := ocons r0 fun a0 r1 => ocons r1 fun a1 r2 => onil r2 (obind (argV (T := T) 139 a0) fun a0 => obind (argV (T := T) 3 a1) fun k1 => laws_heldBook n a0 k1)
def laws_heldBook_ent (n : Nat) : Ent T := ⟨173, 35, [], Int, laws_heldBook_D n, laws_heldBook_enc⟩
def laws_heldLotS_D (n : Nat) (r0 : List (A T)) : Option Int := ocons r0 fun a0 r1 => ocons r1 fun a1 r2 => onil r2 (obind (argV (T := T) 140 a0) fun a0 => obind (argV (T := T) 3 a1) fun k1 => laws_heldLotS n a0 k1)
def laws_heldLotS_ent (n : Nat) : Ent T := ⟨233, 36, [], Int, laws_heldLotS_D n, laws_heldLotS_enc⟩
def laws_heldTraderS_D (n : Nat) (r0 : List (A T)) : Option Int := ocons r0 fun a0 r1 => ocons r1 fun a1 r2 => onil r2 (obind (argV (T := T) 141 a0) fun a0 => obind (argV (T := T) 3 a1) fun k1 => laws_heldTraderS n a0 k1)
def laws_heldTraderS_ent (n : Nat) : Ent T := ⟨234, 37, [], Int, laws_heldTraderS_D n, laws_heldTraderS_enc⟩
def laws_heldHouse_D (n : Nat) (r0 : List (A T)) : Option Int := ocons r0 fun a0 r1 => ocons r1 fun a1 r2 => onil r2 (obind (argV (T := T) 143 a0) fun a0 => obind (argV (T := T) 3 a1) fun k1 => laws_heldHouse n a0 k1)
def laws_heldHouse_ent (n : Nat) : Ent T := ⟨174, 38, [], Int, laws_heldHouse_D n, laws_heldHouse_enc⟩
def laws_heldPort_D (n : Nat) (r0 : List (A T)) : Option Int := ocons r0 fun a0 r1 => ocons r1 fun a1 r2 => onil r2 (obind (argV (T := T) 145 a0) fun a0 => obind (argV (T := T) 3 a1) fun k1 => laws_heldPort n a0 k1)
def laws_heldPort_ent (n : Nat) : Ent T := ⟨86, 39, [], Int, laws_heldPort_D n, laws_heldPort_enc⟩
def laws_FnExactNewPort_D (n : Nat) (r0 : List (A T)) : Option Bool := onil r0 (laws_FnExactNewPort n)
def laws_FnExactNewPort_ent (n : Nat) : Ent T := ⟨14, 40, [], Bool, laws_FnExactNewPort_D n, laws_FnExactNewPort_enc⟩
def ents (n : Nat) : List (Ent T) := [spec_NewPort_ent n, impl_NewPort_ent n, laws_eqCall_ent n, laws_eqCallS_ent n, laws_eqIntS_ent n, laws_eqIntSS_ent n, laws_eqYard_ent n, laws_eqStringS_ent n, laws_eqBill_ent n, laws_eqBillS_ent n, laws_eqBook_ent n, laws_eqLot_ent n, laws_eqLotS_ent n, laws_eqTrader_ent n, laws_eqTraderS_ent n, laws_eqHouse_ent n, laws_eqPort_ent n, laws_markCallS_ent n, laws_markIntS_ent n, laws_markIntSS_ent n, laws_markYard_ent n, laws_markText_ent n, laws_markStringS_ent n, laws_markBillS_ent n, laws_markBook_ent n, laws_markLotS_ent n, laws_markTraderS_ent n, laws_markHouse_ent n, laws_markPort_ent n, laws_heldCallS_ent n, laws_heldIntS_ent n, laws_heldIntSS_ent n, laws_heldYard_ent n, laws_heldStringS_ent n, laws_heldBillS_ent n, laws_heldBook_ent n, laws_heldLotS_ent n, laws_heldTraderS_ent n, laws_heldHouse_ent n, laws_heldPort_ent n, laws_FnExactNewPort_ent n]
abbrev Phi (n i : Nat) {R : Type} (f : Nat) (ar : List (A T)) (K : Res T → Option R) : Option R := PhiE (ents n) i f ar K
theorem mixed : Try.prog.follows .mixedOrders = true := by kernel_rfl
noncomputable def spec_NewPort_code : Code := match Try.f82.body with | some c => c | none => .skip
def spec_NewPort_ann : Ann := fun id => none
def spec_NewPort_Ls (n : Nat) : Nat → Option (LSpec T) := fun id => none
theorem spec_NewPort_tie (n : Nat)  : evF (T := T) (Phi n 0) (spec_NewPort_Ls n) spec_NewPort_ann n Try.f82 (sg 82) [] spec_NewPort_dec = spec_NewPort n := by kernel_rfl
theorem spec_NewPort_lo (n : Nat) : LoopsOk (T := T) (Phi n 0) (spec_NewPort_Ls n) spec_NewPort_ann n spec_NewPort_code := loopsOk_all (cs := []) (by kernel_rfl) trivial
theorem spec_NewPort_ok (n : Nat) : EntOk Try.prog (ents n) (spec_NewPort_ent n) := by
  intro hs ar y hg h
  replace h : spec_NewPort_D n ar = some y := h
  unfold spec_NewPort_D at h
  replace h := onil_some h
  obtain ⟨rfl, h⟩ := h
  exact call_of (phiE_nat _ _) hs ok mixed Try.func82 (c := spec_NewPort_code) (by kernel_rfl) (spec_NewPort_lo n) (by kernel_rfl) (by kernel_rfl) (by kernel_rfl) spec_NewPort_de ((spec_NewPort_tie n).trans h)
noncomputable def impl_NewPort_code : Code := match Try.f83.body with | some c => c | none => .skip
def impl_NewPort_ann : Ann := fun id => none
def impl_NewPort_Ls (n : Nat) : Nat → Option (LSpec T) := fun id => none
theorem impl_NewPort_tie (n : Nat)  : evF (T := T) (Phi n 1) (impl_NewPort_Ls n) impl_NewPort_ann n Try.f83 (sg 83) [] impl_NewPort_dec = impl_NewPort n := by kernel_rfl
theorem impl_NewPort_lo (n : Nat) : LoopsOk (T := T) (Phi n 1) (impl_NewPort_Ls n) impl_NewPort_ann n impl_NewPort_code := loopsOk_all (cs := []) (by kernel_rfl) trivial
theorem impl_NewPort_ok (n : Nat) : EntOk Try.prog (ents n) (impl_NewPort_ent n) := by
  intro hs ar y hg h
  replace h : impl_NewPort_D n ar = some y := h
  unfold impl_NewPort_D at h
  replace h := onil_some h
  obtain ⟨rfl, h⟩ := h
  exact call_of (phiE_nat _ _) hs ok mixed Try.func83 (c := impl_NewPort_code) (by kernel_rfl) (impl_NewPort_lo n) (by kernel_rfl) (by kernel_rfl) (by kernel_rfl) impl_NewPort_de ((impl_NewPort_tie n).trans h)
noncomputable def laws_eqCall_code : Code := match Try.f225.body with | some c => c | none => .skip
def laws_eqCall_ann : Ann := fun id => none
def laws_eqCall_Ls (n : Nat) : Nat → Option (LSpec T) := fun id => none
theorem laws_eqCall_tie (n : Nat) (a0 : SCall) (b1 : SCall) : evF (T := T) (Phi n 2) (laws_eqCall_Ls n) laws_eqCall_ann n Try.f225 (sg 225) [vA T 281 a0, vA T 281 b1] laws_eqCall_dec = laws_eqCall n a0 b1 := by kernel_rfl
theorem laws_eqCall_lo (n : Nat) : LoopsOk (T := T) (Phi n 2) (laws_eqCall_Ls n) laws_eqCall_ann n laws_eqCall_code := loopsOk_all (cs := []) (by kernel_rfl) trivial
theorem laws_eqCall_ok (n : Nat) : EntOk Try.prog (ents n) (laws_eqCall_ent n) := by
  intro hs ar y hg h
  replace h : laws_eqCall_D n ar = some y := h
  unfold laws_eqCall_D at h
  replace h := ocons_some h
  obtain ⟨a0, r0, rfl, h⟩ := h
  replace h := ocons_some h
  obtain ⟨a1, r1, rfl, h⟩ := h
  replace h := onil_some h
  obtain ⟨rfl, h⟩ := h
  obtain ⟨a0, qh0, h⟩ := obind_some h
  obtain ⟨b1, qh1, h⟩ := obind_some h
  rw [argV_eq ok qh0, argV_eq ok qh1]
  exact call_of (phiE_nat _ _) hs ok mixed Try.func225 (c := laws_eqCall_code) (by kernel_rfl) (laws_eqCall_lo n) (by kernel_rfl) (by kernel_rfl) (by kernel_rfl) laws_eqCall_de ((laws_eqCall_tie n a0 b1).trans h)
noncomputable def laws_eqCallS_code : Code := match Try.f163.body with | some c => c | none => .skip
def laws_eqCallS_4_sv : List Sv := [.one (.arr 281), .one (.arr 281), .one (.int .i64)]
def laws_eqCallS_4_so : List So := []
def laws_eqCallS_4_emb (c : List SCall × List SCall) (x : Int) : EVs T laws_eqCallS_4_sv × EOs T laws_eqCallS_4_so := ((c.1, c.2, x, ()), ())
def laws_eqCallS_4_prj (y : EVs T laws_eqCallS_4_sv × EOs T laws_eqCallS_4_so) : (List SCall × List SCall) × Int := ((y.1.1, y.1.2.1), (y.1.2.2.1))
def laws_eqCallS_4_b (n : Nat) {R : Type} (K : Ex → Sm.St T → Option R) (c : List SCall × List SCall) (x : Int) (J : Int → Option R) : Option R :=
  laws_eqCallS_L4 n (K (.exit 0) (stOf (T := T) [] [] [] [] () ())) (fun (y0 : Bool) => K .ret (stOf (T := T) [4] [] [.one (.bool)] [] (y0, ()) ())) J c.1 c.2 x
def laws_eqCallS_4_sp (n : Nat) : LSpec T := mkSpec T ⟨[], [0, 1, 5], []⟩ laws_eqCallS_4_sv laws_eqCallS_4_so (List SCall × List SCall) (Int) laws_eqCallS_4_emb laws_eqCallS_4_prj (laws_eqCallS_4_b n)
noncomputable def laws_eqCallS_4_c : Code := ((loopCodes laws_eqCallS_code)[0]?).getD .skip
def laws_eqCallS_ann : Ann := fun id => bif Nat.beq id 3000004 then some ⟨[], [], []⟩ else bif Nat.beq id 2000004 then some ⟨[], [4], []⟩ else none
def laws_eqCallS_Ls (n : Nat) : Nat → Option (LSpec T) := fun id => bif Nat.beq id 4 then some (laws_eqCallS_4_sp n) else none
theorem laws_eqCallS_4_le (n : Nat) : LoopEq (T := T) (Phi n 3) (laws_eqCallS_Ls n) laws_eqCallS_ann n laws_eqCallS_4_c (laws_eqCallS_4_sp n) := ⟨mkSpec_dec (fun y => rfl), fun c x => by kernel_rfl, fun K J c x => by kernel_rfl⟩
theorem laws_eqCallS_tie (n : Nat) (a0 : List SCall) (b1 : List SCall) : evF (T := T) (Phi n 3) (laws_eqCallS_Ls n) laws_eqCallS_ann n Try.f163 (sg 163) [vA T 136 a0, vA T 136 b1] laws_eqCallS_dec = laws_eqCallS n a0 b1 := by kernel_rfl
theorem laws_eqCallS_lo (n : Nat) : LoopsOk (T := T) (Phi n 3) (laws_eqCallS_Ls n) laws_eqCallS_ann n laws_eqCallS_code := loopsOk_all (cs := [laws_eqCallS_4_c]) (by kernel_rfl) ⟨⟨_, by kernel_rfl, laws_eqCallS_4_le n⟩, trivial⟩
theorem laws_eqCallS_ok (n : Nat) : EntOk Try.prog (ents n) (laws_eqCallS_ent n) := by
  intro hs ar y hg h
  replace h : laws_eqCallS_D n ar = some y := h
  unfold laws_eqCallS_D at h
  replace h := ocons_some h
  obtain ⟨a0, r0, rfl, h⟩ := h
  replace h := ocons_some h
  obtain ⟨a1, r1, rfl, h⟩ := h
  replace h := onil_some h
  obtain ⟨rfl, h⟩ := h
  obtain ⟨a0, qh0, h⟩ := obind_some h
  obtain ⟨b1, qh1, h⟩ := obind_some h
  rw [argV_eq ok qh0, argV_eq ok qh1]
  exact call_of (phiE_nat _ _) hs ok mixed Try.func163 (c := laws_eqCallS_code) (by kernel_rfl) (laws_eqCallS_lo n) (by kernel_rfl) (by kernel_rfl) (by kernel_rfl) laws_eqCallS_de ((laws_eqCallS_tie n a0 b1).trans h)
noncomputable def laws_eqIntS_code : Code := match Try.f37.body with | some c => c | none => .skip
def laws_eqIntS_4_sv : List Sv := [.one (.arr 3), .one (.arr 3), .one (.int .i64)]
def laws_eqIntS_4_so : List So := []
def laws_eqIntS_4_emb (c : List Int × List Int) (x : Int) : EVs T laws_eqIntS_4_sv × EOs T laws_eqIntS_4_so := ((c.1, c.2, x, ()), ())
def laws_eqIntS_4_prj (y : EVs T laws_eqIntS_4_sv × EOs T laws_eqIntS_4_so) : (List Int × List Int) × Int := ((y.1.1, y.1.2.1), (y.1.2.2.1))
def laws_eqIntS_4_b (n : Nat) {R : Type} (K : Ex → Sm.St T → Option R) (c : List Int × List Int) (x : Int) (J : Int → Option R) : Option R :=
  laws_eqIntS_L4 n (K (.exit 0) (stOf (T := T) [] [] [] [] () ())) (fun (y0 : Bool) => K .ret (stOf (T := T) [4] [] [.one (.bool)] [] (y0, ()) ())) J c.1 c.2 x
def laws_eqIntS_4_sp (n : Nat) : LSpec T := mkSpec T ⟨[], [0, 1, 5], []⟩ laws_eqIntS_4_sv laws_eqIntS_4_so (List Int × List Int) (Int) laws_eqIntS_4_emb laws_eqIntS_4_prj (laws_eqIntS_4_b n)
noncomputable def laws_eqIntS_4_c : Code := ((loopCodes laws_eqIntS_code)[0]?).getD .skip
def laws_eqIntS_ann : Ann := fun id => bif Nat.beq id 3000004 then some ⟨[], [], []⟩ else bif Nat.beq id 2000004 then some ⟨[], [4], []⟩ else none
def laws_eqIntS_Ls (n : Nat) : Nat → Option (LSpec T) := fun id => bif Nat.beq id 4 then some (laws_eqIntS_4_sp n) else none
theorem laws_eqIntS_4_le (n : Nat) : LoopEq (T := T) (Phi n 4) (laws_eqIntS_Ls n) laws_eqIntS_ann n laws_eqIntS_4_c (laws_eqIntS_4_sp n) := ⟨mkSpec_dec (fun y => rfl), fun c x => by kernel_rfl, fun K J c x => by kernel_rfl⟩
theorem laws_eqIntS_tie (n : Nat) (a0 : List Int) (b1 : List Int) : evF (T := T) (Phi n 4) (laws_eqIntS_Ls n) laws_eqIntS_ann n Try.f37 (sg 37) [vA T 55 a0, vA T 55 b1] laws_eqIntS_dec = laws_eqIntS n a0 b1 := by kernel_rfl
theorem laws_eqIntS_lo (n : Nat) : LoopsOk (T := T) (Phi n 4) (laws_eqIntS_Ls n) laws_eqIntS_ann n laws_eqIntS_code := loopsOk_all (cs := [laws_eqIntS_4_c]) (by kernel_rfl) ⟨⟨_, by kernel_rfl, laws_eqIntS_4_le n⟩, trivial⟩
theorem laws_eqIntS_ok (n : Nat) : EntOk Try.prog (ents n) (laws_eqIntS_ent n) := by
  intro hs ar y hg h
  replace h : laws_eqIntS_D n ar = some y := h
  unfold laws_eqIntS_D at h
  replace h := ocons_some h
  obtain ⟨a0, r0, rfl, h⟩ := h
  replace h := ocons_some h
  obtain ⟨a1, r1, rfl, h⟩ := h
  replace h := onil_some h
  obtain ⟨rfl, h⟩ := h
  obtain ⟨a0, qh0, h⟩ := obind_some h
  obtain ⟨b1, qh1, h⟩ := obind_some h
  rw [argV_eq ok qh0, argV_eq ok qh1]
  exact call_of (phiE_nat _ _) hs ok mixed Try.func37 (c := laws_eqIntS_code) (by kernel_rfl) (laws_eqIntS_lo n) (by kernel_rfl) (by kernel_rfl) (by kernel_rfl) laws_eqIntS_de ((laws_eqIntS_tie n a0 b1).trans h)
noncomputable def laws_eqIntSS_code : Code := match Try.f106.body with | some c => c | none => .skip
def laws_eqIntSS_4_sv : List Sv := [.one (.arr 55), .one (.arr 55), .one (.int .i64)]
def laws_eqIntSS_4_so : List So := []
def laws_eqIntSS_4_emb (c : List (List Int) × List (List Int)) (x : Int) : EVs T laws_eqIntSS_4_sv × EOs T laws_eqIntSS_4_so := ((c.1, c.2, x, ()), ())
def laws_eqIntSS_4_prj (y : EVs T laws_eqIntSS_4_sv × EOs T laws_eqIntSS_4_so) : (List (List Int) × List (List Int)) × Int := ((y.1.1, y.1.2.1), (y.1.2.2.1))
def laws_eqIntSS_4_b (n : Nat) {R : Type} (K : Ex → Sm.St T → Option R) (c : List (List Int) × List (List Int)) (x : Int) (J : Int → Option R) : Option R :=
  laws_eqIntSS_L4 n (K (.exit 0) (stOf (T := T) [] [] [] [] () ())) (fun (y0 : Bool) => K .ret (stOf (T := T) [4] [] [.one (.bool)] [] (y0, ()) ())) J c.1 c.2 x
def laws_eqIntSS_4_sp (n : Nat) : LSpec T := mkSpec T ⟨[], [0, 1, 5], []⟩ laws_eqIntSS_4_sv laws_eqIntSS_4_so (List (List Int) × List (List Int)) (Int) laws_eqIntSS_4_emb laws_eqIntSS_4_prj (laws_eqIntSS_4_b n)
noncomputable def laws_eqIntSS_4_c : Code := ((loopCodes laws_eqIntSS_code)[0]?).getD .skip
def laws_eqIntSS_ann : Ann := fun id => bif Nat.beq id 3000004 then some ⟨[], [], []⟩ else bif Nat.beq id 2000004 then some ⟨[], [4], []⟩ else none
def laws_eqIntSS_Ls (n : Nat) : Nat → Option (LSpec T) := fun id => bif Nat.beq id 4 then some (laws_eqIntSS_4_sp n) else none
theorem laws_eqIntSS_4_le (n : Nat) : LoopEq (T := T) (Phi n 5) (laws_eqIntSS_Ls n) laws_eqIntSS_ann n laws_eqIntSS_4_c (laws_eqIntSS_4_sp n) := ⟨mkSpec_dec (fun y => rfl), fun c x => by kernel_rfl, fun K J c x => by kernel_rfl⟩
theorem laws_eqIntSS_tie (n : Nat) (a0 : List (List Int)) (b1 : List (List Int)) : evF (T := T) (Phi n 5) (laws_eqIntSS_Ls n) laws_eqIntSS_ann n Try.f106 (sg 106) [vA T 24 a0, vA T 24 b1] laws_eqIntSS_dec = laws_eqIntSS n a0 b1 := by kernel_rfl
theorem laws_eqIntSS_lo (n : Nat) : LoopsOk (T := T) (Phi n 5) (laws_eqIntSS_Ls n) laws_eqIntSS_ann n laws_eqIntSS_code := loopsOk_all (cs := [laws_eqIntSS_4_c]) (by kernel_rfl) ⟨⟨_, by kernel_rfl, laws_eqIntSS_4_le n⟩, trivial⟩
theorem laws_eqIntSS_ok (n : Nat) : EntOk Try.prog (ents n) (laws_eqIntSS_ent n) := by
  intro hs ar y hg h
  replace h : laws_eqIntSS_D n ar = some y := h
  unfold laws_eqIntSS_D at h
  replace h := ocons_some h
  obtain ⟨a0, r0, rfl, h⟩ := h
  replace h := ocons_some h
  obtain ⟨a1, r1, rfl, h⟩ := h
  replace h := onil_some h
  obtain ⟨rfl, h⟩ := h
  obtain ⟨a0, qh0, h⟩ := obind_some h
  obtain ⟨b1, qh1, h⟩ := obind_some h
  rw [argV_eq ok qh0, argV_eq ok qh1]
  exact call_of (phiE_nat _ _) hs ok mixed Try.func106 (c := laws_eqIntSS_code) (by kernel_rfl) (laws_eqIntSS_lo n) (by kernel_rfl) (by kernel_rfl) (by kernel_rfl) laws_eqIntSS_de ((laws_eqIntSS_tie n a0 b1).trans h)
noncomputable def laws_eqYard_code : Code := match Try.f164.body with | some c => c | none => .skip
def laws_eqYard_ann : Ann := fun id => none
def laws_eqYard_Ls (n : Nat) : Nat → Option (LSpec T) := fun id => none
theorem laws_eqYard_tie (n : Nat) (a0 : SYard) (b1 : SYard) : evF (T := T) (Phi n 6) (laws_eqYard_Ls n) laws_eqYard_ann n Try.f164 (sg 164) [vA T 123 a0, vA T 123 b1] laws_eqYard_dec = laws_eqYard n a0 b1 := by kernel_rfl
theorem laws_eqYard_lo (n : Nat) : LoopsOk (T := T) (Phi n 6) (laws_eqYard_Ls n) laws_eqYard_ann n laws_eqYard_code := loopsOk_all (cs := []) (by kernel_rfl) trivial
theorem laws_eqYard_ok (n : Nat) : EntOk Try.prog (ents n) (laws_eqYard_ent n) := by
  intro hs ar y hg h
  replace h : laws_eqYard_D n ar = some y := h
  unfold laws_eqYard_D at h
  replace h := ocons_some h
  obtain ⟨a0, r0, rfl, h⟩ := h
  replace h := ocons_some h
  obtain ⟨a1, r1, rfl, h⟩ := h
  replace h := onil_some h
  obtain ⟨rfl, h⟩ := h
  obtain ⟨a0, qh0, h⟩ := obind_some h
  obtain ⟨b1, qh1, h⟩ := obind_some h
  rw [argV_eq ok qh0, argV_eq ok qh1]
  exact call_of (phiE_nat _ _) hs ok mixed Try.func164 (c := laws_eqYard_code) (by kernel_rfl) (laws_eqYard_lo n) (by kernel_rfl) (by kernel_rfl) (by kernel_rfl) laws_eqYard_de ((laws_eqYard_tie n a0 b1).trans h)
noncomputable def laws_eqStringS_code : Code := match Try.f270.body with | some c => c | none => .skip
def laws_eqStringS_4_sv : List Sv := [.one (.arr 9), .one (.arr 9), .one (.int .i64)]
def laws_eqStringS_4_so : List So := []
def laws_eqStringS_4_emb (c : List ByteArray × List ByteArray) (x : Int) : EVs T laws_eqStringS_4_sv × EOs T laws_eqStringS_4_so := ((c.1, c.2, x, ()), ())
def laws_eqStringS_4_prj (y : EVs T laws_eqStringS_4_sv × EOs T laws_eqStringS_4_so) : (List ByteArray × List ByteArray) × Int := ((y.1.1, y.1.2.1), (y.1.2.2.1))
def laws_eqStringS_4_b (n : Nat) {R : Type} (K : Ex → Sm.St T → Option R) (c : List ByteArray × List ByteArray) (x : Int) (J : Int → Option R) : Option R :=
  laws_eqStringS_L4 n (K (.exit 0) (stOf (T := T) [] [] [] [] () ())) (fun (y0 : Bool) => K .ret (stOf (T := T) [4] [] [.one (.bool)] [] (y0, ()) ())) J c.1 c.2 x
def laws_eqStringS_4_sp (n : Nat) : LSpec T := mkSpec T ⟨[], [0, 1, 5], []⟩ laws_eqStringS_4_sv laws_eqStringS_4_so (List ByteArray × List ByteArray) (Int) laws_eqStringS_4_emb laws_eqStringS_4_prj (laws_eqStringS_4_b n)
noncomputable def laws_eqStringS_4_c : Code := ((loopCodes laws_eqStringS_code)[0]?).getD .skip
def laws_eqStringS_ann : Ann := fun id => bif Nat.beq id 3000004 then some ⟨[], [], []⟩ else bif Nat.beq id 2000004 then some ⟨[], [4], []⟩ else none
def laws_eqStringS_Ls (n : Nat) : Nat → Option (LSpec T) := fun id => bif Nat.beq id 4 then some (laws_eqStringS_4_sp n) else none
theorem laws_eqStringS_4_le (n : Nat) : LoopEq (T := T) (Phi n 7) (laws_eqStringS_Ls n) laws_eqStringS_ann n laws_eqStringS_4_c (laws_eqStringS_4_sp n) := ⟨mkSpec_dec (fun y => rfl), fun c x => by kernel_rfl, fun K J c x => by kernel_rfl⟩
theorem laws_eqStringS_tie (n : Nat) (a0 : List ByteArray) (b1 : List ByteArray) : evF (T := T) (Phi n 7) (laws_eqStringS_Ls n) laws_eqStringS_ann n Try.f270 (sg 270) [vA T 270 a0, vA T 270 b1] laws_eqStringS_dec = laws_eqStringS n a0 b1 := by kernel_rfl
theorem laws_eqStringS_lo (n : Nat) : LoopsOk (T := T) (Phi n 7) (laws_eqStringS_Ls n) laws_eqStringS_ann n laws_eqStringS_code := loopsOk_all (cs := [laws_eqStringS_4_c]) (by kernel_rfl) ⟨⟨_, by kernel_rfl, laws_eqStringS_4_le n⟩, trivial⟩
theorem laws_eqStringS_ok (n : Nat) : EntOk Try.prog (ents n) (laws_eqStringS_ent n) := by
  intro hs ar y hg h
  replace h : laws_eqStringS_D n ar = some y := h
  unfold laws_eqStringS_D at h
  replace h := ocons_some h
  obtain ⟨a0, r0, rfl, h⟩ := h
  replace h := ocons_some h
  obtain ⟨a1, r1, rfl, h⟩ := h
  replace h := onil_some h
  obtain ⟨rfl, h⟩ := h
  obtain ⟨a0, qh0, h⟩ := obind_some h
  obtain ⟨b1, qh1, h⟩ := obind_some h
  rw [argV_eq ok qh0, argV_eq ok qh1]
  exact call_of (phiE_nat _ _) hs ok mixed Try.func270 (c := laws_eqStringS_code) (by kernel_rfl) (laws_eqStringS_lo n) (by kernel_rfl) (by kernel_rfl) (by kernel_rfl) laws_eqStringS_de ((laws_eqStringS_tie n a0 b1).trans h)
noncomputable def laws_eqBill_code : Code := match Try.f252.body with | some c => c | none => .skip
def laws_eqBill_ann : Ann := fun id => none
def laws_eqBill_Ls (n : Nat) : Nat → Option (LSpec T) := fun id => none
theorem laws_eqBill_tie (n : Nat) (a0 : SBill) (b1 : SBill) : evF (T := T) (Phi n 8) (laws_eqBill_Ls n) laws_eqBill_ann n Try.f252 (sg 252) [vA T 304 a0, vA T 304 b1] laws_eqBill_dec = laws_eqBill n a0 b1 := by kernel_rfl
theorem laws_eqBill_lo (n : Nat) : LoopsOk (T := T) (Phi n 8) (laws_eqBill_Ls n) laws_eqBill_ann n laws_eqBill_code := loopsOk_all (cs := []) (by kernel_rfl) trivial
theorem laws_eqBill_ok (n : Nat) : EntOk Try.prog (ents n) (laws_eqBill_ent n) := by
  intro hs ar y hg h
  replace h : laws_eqBill_D n ar = some y := h
  unfold laws_eqBill_D at h
  replace h := ocons_some h
  obtain ⟨a0, r0, rfl, h⟩ := h
  replace h := ocons_some h
  obtain ⟨a1, r1, rfl, h⟩ := h
  replace h := onil_some h
  obtain ⟨rfl, h⟩ := h
  obtain ⟨a0, qh0, h⟩ := obind_some h
  obtain ⟨b1, qh1, h⟩ := obind_some h
  rw [argV_eq ok qh0, argV_eq ok qh1]
  exact call_of (phiE_nat _ _) hs ok mixed Try.func252 (c := laws_eqBill_code) (by kernel_rfl) (laws_eqBill_lo n) (by kernel_rfl) (by kernel_rfl) (by kernel_rfl) laws_eqBill_de ((laws_eqBill_tie n a0 b1).trans h)
noncomputable def laws_eqBillS_code : Code := match Try.f226.body with | some c => c | none => .skip
def laws_eqBillS_4_sv : List Sv := [.one (.arr 304), .one (.arr 304), .one (.int .i64)]
def laws_eqBillS_4_so : List So := []
def laws_eqBillS_4_emb (c : List SBill × List SBill) (x : Int) : EVs T laws_eqBillS_4_sv × EOs T laws_eqBillS_4_so := ((c.1, c.2, x, ()), ())
def laws_eqBillS_4_prj (y : EVs T laws_eqBillS_4_sv × EOs T laws_eqBillS_4_so) : (List SBill × List SBill) × Int := ((y.1.1, y.1.2.1), (y.1.2.2.1))
def laws_eqBillS_4_b (n : Nat) {R : Type} (K : Ex → Sm.St T → Option R) (c : List SBill × List SBill) (x : Int) (J : Int → Option R) : Option R :=
  laws_eqBillS_L4 n (K (.exit 0) (stOf (T := T) [] [] [] [] () ())) (fun (y0 : Bool) => K .ret (stOf (T := T) [4] [] [.one (.bool)] [] (y0, ()) ())) J c.1 c.2 x
def laws_eqBillS_4_sp (n : Nat) : LSpec T := mkSpec T ⟨[], [0, 1, 5], []⟩ laws_eqBillS_4_sv laws_eqBillS_4_so (List SBill × List SBill) (Int) laws_eqBillS_4_emb laws_eqBillS_4_prj (laws_eqBillS_4_b n)
noncomputable def laws_eqBillS_4_c : Code := ((loopCodes laws_eqBillS_code)[0]?).getD .skip
def laws_eqBillS_ann : Ann := fun id => bif Nat.beq id 3000004 then some ⟨[], [], []⟩ else bif Nat.beq id 2000004 then some ⟨[], [4], []⟩ else none
def laws_eqBillS_Ls (n : Nat) : Nat → Option (LSpec T) := fun id => bif Nat.beq id 4 then some (laws_eqBillS_4_sp n) else none
theorem laws_eqBillS_4_le (n : Nat) : LoopEq (T := T) (Phi n 9) (laws_eqBillS_Ls n) laws_eqBillS_ann n laws_eqBillS_4_c (laws_eqBillS_4_sp n) := ⟨mkSpec_dec (fun y => rfl), fun c x => by kernel_rfl, fun K J c x => by kernel_rfl⟩
theorem laws_eqBillS_tie (n : Nat) (a0 : List SBill) (b1 : List SBill) : evF (T := T) (Phi n 9) (laws_eqBillS_Ls n) laws_eqBillS_ann n Try.f226 (sg 226) [vA T 137 a0, vA T 137 b1] laws_eqBillS_dec = laws_eqBillS n a0 b1 := by kernel_rfl
theorem laws_eqBillS_lo (n : Nat) : LoopsOk (T := T) (Phi n 9) (laws_eqBillS_Ls n) laws_eqBillS_ann n laws_eqBillS_code := loopsOk_all (cs := [laws_eqBillS_4_c]) (by kernel_rfl) ⟨⟨_, by kernel_rfl, laws_eqBillS_4_le n⟩, trivial⟩
theorem laws_eqBillS_ok (n : Nat) : EntOk Try.prog (ents n) (laws_eqBillS_ent n) := by
  intro hs ar y hg h
  replace h : laws_eqBillS_D n ar = some y := h
  unfold laws_eqBillS_D at h
  replace h := ocons_some h
  obtain ⟨a0, r0, rfl, h⟩ := h
  replace h := ocons_some h
  obtain ⟨a1, r1, rfl, h⟩ := h
  replace h := onil_some h
  obtain ⟨rfl, h⟩ := h
  obtain ⟨a0, qh0, h⟩ := obind_some h
  obtain ⟨b1, qh1, h⟩ := obind_some h
  rw [argV_eq ok qh0, argV_eq ok qh1]
  exact call_of (phiE_nat _ _) hs ok mixed Try.func226 (c := laws_eqBillS_code) (by kernel_rfl) (laws_eqBillS_lo n) (by kernel_rfl) (by kernel_rfl) (by kernel_rfl) laws_eqBillS_de ((laws_eqBillS_tie n a0 b1).trans h)
noncomputable def laws_eqBook_code : Code := match Try.f165.body with | some c => c | none => .skip
def laws_eqBook_ann : Ann := fun id => none
def laws_eqBook_Ls (n : Nat) : Nat → Option (LSpec T) := fun id => none
theorem laws_eqBook_tie (n : Nat) (a0 : SBook) (b1 : SBook) : evF (T := T) (Phi n 10) (laws_eqBook_Ls n) laws_eqBook_ann n Try.f165 (sg 165) [vA T 139 a0, vA T 139 b1] laws_eqBook_dec = laws_eqBook n a0 b1 := by kernel_rfl
theorem laws_eqBook_lo (n : Nat) : LoopsOk (T := T) (Phi n 10) (laws_eqBook_Ls n) laws_eqBook_ann n laws_eqBook_code := loopsOk_all (cs := []) (by kernel_rfl) trivial
theorem laws_eqBook_ok (n : Nat) : EntOk Try.prog (ents n) (laws_eqBook_ent n) := by
  intro hs ar y hg h
  replace h : laws_eqBook_D n ar = some y := h
  unfold laws_eqBook_D at h
  replace h := ocons_some h
  obtain ⟨a0, r0, rfl, h⟩ := h
  replace h := ocons_some h
  obtain ⟨a1, r1, rfl, h⟩ := h
  replace h := onil_some h
  obtain ⟨rfl, h⟩ := h
  obtain ⟨a0, qh0, h⟩ := obind_some h
  obtain ⟨b1, qh1, h⟩ := obind_some h
  rw [argV_eq ok qh0, argV_eq ok qh1]
  exact call_of (phiE_nat _ _) hs ok mixed Try.func165 (c := laws_eqBook_code) (by kernel_rfl) (laws_eqBook_lo n) (by kernel_rfl) (by kernel_rfl) (by kernel_rfl) laws_eqBook_de ((laws_eqBook_tie n a0 b1).trans h)
noncomputable def laws_eqLot_code : Code := match Try.f253.body with | some c => c | none => .skip
def laws_eqLot_ann : Ann := fun id => none
def laws_eqLot_Ls (n : Nat) : Nat → Option (LSpec T) := fun id => none
theorem laws_eqLot_tie (n : Nat) (a0 : SLot) (b1 : SLot) : evF (T := T) (Phi n 11) (laws_eqLot_Ls n) laws_eqLot_ann n Try.f253 (sg 253) [vA T 307 a0, vA T 307 b1] laws_eqLot_dec = laws_eqLot n a0 b1 := by kernel_rfl
theorem laws_eqLot_lo (n : Nat) : LoopsOk (T := T) (Phi n 11) (laws_eqLot_Ls n) laws_eqLot_ann n laws_eqLot_code := loopsOk_all (cs := []) (by kernel_rfl) trivial
theorem laws_eqLot_ok (n : Nat) : EntOk Try.prog (ents n) (laws_eqLot_ent n) := by
  intro hs ar y hg h
  replace h : laws_eqLot_D n ar = some y := h
  unfold laws_eqLot_D at h
  replace h := ocons_some h
  obtain ⟨a0, r0, rfl, h⟩ := h
  replace h := ocons_some h
  obtain ⟨a1, r1, rfl, h⟩ := h
  replace h := onil_some h
  obtain ⟨rfl, h⟩ := h
  obtain ⟨a0, qh0, h⟩ := obind_some h
  obtain ⟨b1, qh1, h⟩ := obind_some h
  rw [argV_eq ok qh0, argV_eq ok qh1]
  exact call_of (phiE_nat _ _) hs ok mixed Try.func253 (c := laws_eqLot_code) (by kernel_rfl) (laws_eqLot_lo n) (by kernel_rfl) (by kernel_rfl) (by kernel_rfl) laws_eqLot_de ((laws_eqLot_tie n a0 b1).trans h)
noncomputable def laws_eqLotS_code : Code := match Try.f227.body with | some c => c | none => .skip
def laws_eqLotS_4_sv : List Sv := [.one (.arr 307), .one (.arr 307), .one (.int .i64)]
def laws_eqLotS_4_so : List So := []
def laws_eqLotS_4_emb (c : List SLot × List SLot) (x : Int) : EVs T laws_eqLotS_4_sv × EOs T laws_eqLotS_4_so := ((c.1, c.2, x, ()), ())
def laws_eqLotS_4_prj (y : EVs T laws_eqLotS_4_sv × EOs T laws_eqLotS_4_so) : (List SLot × List SLot) × Int := ((y.1.1, y.1.2.1), (y.1.2.2.1))
def laws_eqLotS_4_b (n : Nat) {R : Type} (K : Ex → Sm.St T → Option R) (c : List SLot × List SLot) (x : Int) (J : Int → Option R) : Option R :=
  laws_eqLotS_L4 n (K (.exit 0) (stOf (T := T) [] [] [] [] () ())) (fun (y0 : Bool) => K .ret (stOf (T := T) [4] [] [.one (.bool)] [] (y0, ()) ())) J c.1 c.2 x
def laws_eqLotS_4_sp (n : Nat) : LSpec T := mkSpec T ⟨[], [0, 1, 5], []⟩ laws_eqLotS_4_sv laws_eqLotS_4_so (List SLot × List SLot) (Int) laws_eqLotS_4_emb laws_eqLotS_4_prj (laws_eqLotS_4_b n)
noncomputable def laws_eqLotS_4_c : Code := ((loopCodes laws_eqLotS_code)[0]?).getD .skip
def laws_eqLotS_ann : Ann := fun id => bif Nat.beq id 3000004 then some ⟨[], [], []⟩ else bif Nat.beq id 2000004 then some ⟨[], [4], []⟩ else none
def laws_eqLotS_Ls (n : Nat) : Nat → Option (LSpec T) := fun id => bif Nat.beq id 4 then some (laws_eqLotS_4_sp n) else none
theorem laws_eqLotS_4_le (n : Nat) : LoopEq (T := T) (Phi n 12) (laws_eqLotS_Ls n) laws_eqLotS_ann n laws_eqLotS_4_c (laws_eqLotS_4_sp n) := ⟨mkSpec_dec (fun y => rfl), fun c x => by kernel_rfl, fun K J c x => by kernel_rfl⟩
theorem laws_eqLotS_tie (n : Nat) (a0 : List SLot) (b1 : List SLot) : evF (T := T) (Phi n 12) (laws_eqLotS_Ls n) laws_eqLotS_ann n Try.f227 (sg 227) [vA T 140 a0, vA T 140 b1] laws_eqLotS_dec = laws_eqLotS n a0 b1 := by kernel_rfl
theorem laws_eqLotS_lo (n : Nat) : LoopsOk (T := T) (Phi n 12) (laws_eqLotS_Ls n) laws_eqLotS_ann n laws_eqLotS_code := loopsOk_all (cs := [laws_eqLotS_4_c]) (by kernel_rfl) ⟨⟨_, by kernel_rfl, laws_eqLotS_4_le n⟩, trivial⟩
theorem laws_eqLotS_ok (n : Nat) : EntOk Try.prog (ents n) (laws_eqLotS_ent n) := by
  intro hs ar y hg h
  replace h : laws_eqLotS_D n ar = some y := h
  unfold laws_eqLotS_D at h
  replace h := ocons_some h
  obtain ⟨a0, r0, rfl, h⟩ := h
  replace h := ocons_some h
  obtain ⟨a1, r1, rfl, h⟩ := h
  replace h := onil_some h
  obtain ⟨rfl, h⟩ := h
  obtain ⟨a0, qh0, h⟩ := obind_some h
  obtain ⟨b1, qh1, h⟩ := obind_some h
  rw [argV_eq ok qh0, argV_eq ok qh1]
  exact call_of (phiE_nat _ _) hs ok mixed Try.func227 (c := laws_eqLotS_code) (by kernel_rfl) (laws_eqLotS_lo n) (by kernel_rfl) (by kernel_rfl) (by kernel_rfl) laws_eqLotS_de ((laws_eqLotS_tie n a0 b1).trans h)
noncomputable def laws_eqTrader_code : Code := match Try.f254.body with | some c => c | none => .skip
def laws_eqTrader_ann : Ann := fun id => none
def laws_eqTrader_Ls (n : Nat) : Nat → Option (LSpec T) := fun id => none
theorem laws_eqTrader_tie (n : Nat) (a0 : STrader) (b1 : STrader) : evF (T := T) (Phi n 13) (laws_eqTrader_Ls n) laws_eqTrader_ann n Try.f254 (sg 254) [vA T 229 a0, vA T 229 b1] laws_eqTrader_dec = laws_eqTrader n a0 b1 := by kernel_rfl
theorem laws_eqTrader_lo (n : Nat) : LoopsOk (T := T) (Phi n 13) (laws_eqTrader_Ls n) laws_eqTrader_ann n laws_eqTrader_code := loopsOk_all (cs := []) (by kernel_rfl) trivial
theorem laws_eqTrader_ok (n : Nat) : EntOk Try.prog (ents n) (laws_eqTrader_ent n) := by
  intro hs ar y hg h
  replace h : laws_eqTrader_D n ar = some y := h
  unfold laws_eqTrader_D at h
  replace h := ocons_some h
  obtain ⟨a0, r0, rfl, h⟩ := h
  replace h := ocons_some h
  obtain ⟨a1, r1, rfl, h⟩ := h
  replace h := onil_some h
  obtain ⟨rfl, h⟩ := h
  obtain ⟨a0, qh0, h⟩ := obind_some h
  obtain ⟨b1, qh1, h⟩ := obind_some h
  rw [argV_eq ok qh0, argV_eq ok qh1]
  exact call_of (phiE_nat _ _) hs ok mixed Try.func254 (c := laws_eqTrader_code) (by kernel_rfl) (laws_eqTrader_lo n) (by kernel_rfl) (by kernel_rfl) (by kernel_rfl) laws_eqTrader_de ((laws_eqTrader_tie n a0 b1).trans h)
noncomputable def laws_eqTraderS_code : Code := match Try.f228.body with | some c => c | none => .skip
def laws_eqTraderS_4_sv : List Sv := [.one (.arr 229), .one (.arr 229), .one (.int .i64)]
def laws_eqTraderS_4_so : List So := []
def laws_eqTraderS_4_emb (c : List STrader × List STrader) (x : Int) : EVs T laws_eqTraderS_4_sv × EOs T laws_eqTraderS_4_so := ((c.1, c.2, x, ()), ())
def laws_eqTraderS_4_prj (y : EVs T laws_eqTraderS_4_sv × EOs T laws_eqTraderS_4_so) : (List STrader × List STrader) × Int := ((y.1.1, y.1.2.1), (y.1.2.2.1))
def laws_eqTraderS_4_b (n : Nat) {R : Type} (K : Ex → Sm.St T → Option R) (c : List STrader × List STrader) (x : Int) (J : Int → Option R) : Option R :=
  laws_eqTraderS_L4 n (K (.exit 0) (stOf (T := T) [] [] [] [] () ())) (fun (y0 : Bool) => K .ret (stOf (T := T) [4] [] [.one (.bool)] [] (y0, ()) ())) J c.1 c.2 x
def laws_eqTraderS_4_sp (n : Nat) : LSpec T := mkSpec T ⟨[], [0, 1, 5], []⟩ laws_eqTraderS_4_sv laws_eqTraderS_4_so (List STrader × List STrader) (Int) laws_eqTraderS_4_emb laws_eqTraderS_4_prj (laws_eqTraderS_4_b n)
noncomputable def laws_eqTraderS_4_c : Code := ((loopCodes laws_eqTraderS_code)[0]?).getD .skip
def laws_eqTraderS_ann : Ann := fun id => bif Nat.beq id 3000004 then some ⟨[], [], []⟩ else bif Nat.beq id 2000004 then some ⟨[], [4], []⟩ else none
def laws_eqTraderS_Ls (n : Nat) : Nat → Option (LSpec T) := fun id => bif Nat.beq id 4 then some (laws_eqTraderS_4_sp n) else none
theorem laws_eqTraderS_4_le (n : Nat) : LoopEq (T := T) (Phi n 14) (laws_eqTraderS_Ls n) laws_eqTraderS_ann n laws_eqTraderS_4_c (laws_eqTraderS_4_sp n) := ⟨mkSpec_dec (fun y => rfl), fun c x => by kernel_rfl, fun K J c x => by kernel_rfl⟩
theorem laws_eqTraderS_tie (n : Nat) (a0 : List STrader) (b1 : List STrader) : evF (T := T) (Phi n 14) (laws_eqTraderS_Ls n) laws_eqTraderS_ann n Try.f228 (sg 228) [vA T 141 a0, vA T 141 b1] laws_eqTraderS_dec = laws_eqTraderS n a0 b1 := by kernel_rfl
theorem laws_eqTraderS_lo (n : Nat) : LoopsOk (T := T) (Phi n 14) (laws_eqTraderS_Ls n) laws_eqTraderS_ann n laws_eqTraderS_code := loopsOk_all (cs := [laws_eqTraderS_4_c]) (by kernel_rfl) ⟨⟨_, by kernel_rfl, laws_eqTraderS_4_le n⟩, trivial⟩
theorem laws_eqTraderS_ok (n : Nat) : EntOk Try.prog (ents n) (laws_eqTraderS_ent n) := by
  intro hs ar y hg h
  replace h : laws_eqTraderS_D n ar = some y := h
  unfold laws_eqTraderS_D at h
  replace h := ocons_some h
  obtain ⟨a0, r0, rfl, h⟩ := h
  replace h := ocons_some h
  obtain ⟨a1, r1, rfl, h⟩ := h
  replace h := onil_some h
  obtain ⟨rfl, h⟩ := h
  obtain ⟨a0, qh0, h⟩ := obind_some h
  obtain ⟨b1, qh1, h⟩ := obind_some h
  rw [argV_eq ok qh0, argV_eq ok qh1]
  exact call_of (phiE_nat _ _) hs ok mixed Try.func228 (c := laws_eqTraderS_code) (by kernel_rfl) (laws_eqTraderS_lo n) (by kernel_rfl) (by kernel_rfl) (by kernel_rfl) laws_eqTraderS_de ((laws_eqTraderS_tie n a0 b1).trans h)
noncomputable def laws_eqHouse_code : Code := match Try.f166.body with | some c => c | none => .skip
def laws_eqHouse_ann : Ann := fun id => none
def laws_eqHouse_Ls (n : Nat) : Nat → Option (LSpec T) := fun id => none
theorem laws_eqHouse_tie (n : Nat) (a0 : SHouse) (b1 : SHouse) : evF (T := T) (Phi n 15) (laws_eqHouse_Ls n) laws_eqHouse_ann n Try.f166 (sg 166) [vA T 143 a0, vA T 143 b1] laws_eqHouse_dec = laws_eqHouse n a0 b1 := by kernel_rfl
theorem laws_eqHouse_lo (n : Nat) : LoopsOk (T := T) (Phi n 15) (laws_eqHouse_Ls n) laws_eqHouse_ann n laws_eqHouse_code := loopsOk_all (cs := []) (by kernel_rfl) trivial
theorem laws_eqHouse_ok (n : Nat) : EntOk Try.prog (ents n) (laws_eqHouse_ent n) := by
  intro hs ar y hg h
  replace h : laws_eqHouse_D n ar = some y := h
  unfold laws_eqHouse_D at h
  replace h := ocons_some h
  obtain ⟨a0, r0, rfl, h⟩ := h
  replace h := ocons_some h
  obtain ⟨a1, r1, rfl, h⟩ := h
  replace h := onil_some h
  obtain ⟨rfl, h⟩ := h
  obtain ⟨a0, qh0, h⟩ := obind_some h
  obtain ⟨b1, qh1, h⟩ := obind_some h
  rw [argV_eq ok qh0, argV_eq ok qh1]
  exact call_of (phiE_nat _ _) hs ok mixed Try.func166 (c := laws_eqHouse_code) (by kernel_rfl) (laws_eqHouse_lo n) (by kernel_rfl) (by kernel_rfl) (by kernel_rfl) laws_eqHouse_de ((laws_eqHouse_tie n a0 b1).trans h)
noncomputable def laws_eqPort_code : Code := match Try.f84.body with | some c => c | none => .skip
def laws_eqPort_ann : Ann := fun id => none
def laws_eqPort_Ls (n : Nat) : Nat → Option (LSpec T) := fun id => none
theorem laws_eqPort_tie (n : Nat) (a0 : SPort) (b1 : SPort) : evF (T := T) (Phi n 16) (laws_eqPort_Ls n) laws_eqPort_ann n Try.f84 (sg 84) [vA T 145 a0, vA T 145 b1] laws_eqPort_dec = laws_eqPort n a0 b1 := by kernel_rfl
theorem laws_eqPort_lo (n : Nat) : LoopsOk (T := T) (Phi n 16) (laws_eqPort_Ls n) laws_eqPort_ann n laws_eqPort_code := loopsOk_all (cs := []) (by kernel_rfl) trivial
theorem laws_eqPort_ok (n : Nat) : EntOk Try.prog (ents n) (laws_eqPort_ent n) := by
  intro hs ar y hg h
  replace h : laws_eqPort_D n ar = some y := h
  unfold laws_eqPort_D at h
  replace h := ocons_some h
  obtain ⟨a0, r0, rfl, h⟩ := h
  replace h := ocons_some h
  obtain ⟨a1, r1, rfl, h⟩ := h
  replace h := onil_some h
  obtain ⟨rfl, h⟩ := h
  obtain ⟨a0, qh0, h⟩ := obind_some h
  obtain ⟨b1, qh1, h⟩ := obind_some h
  rw [argV_eq ok qh0, argV_eq ok qh1]
  exact call_of (phiE_nat _ _) hs ok mixed Try.func84 (c := laws_eqPort_code) (by kernel_rfl) (laws_eqPort_lo n) (by kernel_rfl) (by kernel_rfl) (by kernel_rfl) laws_eqPort_de ((laws_eqPort_tie n a0 b1).trans h)
noncomputable def laws_markCallS_code : Code := match Try.f167.body with | some c => c | none => .skip
def laws_markCallS_2_sv : List Sv := [.one (.own 4503599627370496 281 false), .one (.int .i64), .one (.int .i64)]
def laws_markCallS_2_so : List So := [.arr 281 true]
def laws_markCallS_2_emb (c : Unit) (x : Int × Int × List SCall) : EVs T laws_markCallS_2_sv × EOs T laws_markCallS_2_so := (((), x.1, x.2.1, ()), (x.2.2, ()))
def laws_markCallS_2_prj (y : EVs T laws_markCallS_2_sv × EOs T laws_markCallS_2_so) : Unit × (Int × Int × List SCall) := ((), (y.1.2.1, y.1.2.2.1, y.2.1))
def laws_markCallS_2_b (n : Nat) {R : Type} (K : Ex → Sm.St T → Option R) (c : Unit) (x : Int × Int × List SCall) (J : (Int × Int × List SCall) → Option R) : Option R :=
  laws_markCallS_L2 n (fun (y0 : Int) (y1 : List SCall) => K (.exit 0) (stOf (T := T) [1] [4503599627370496] [.one (.int .i64)] [.arr 281 true] (y0, ()) (y1, ()))) (fun z0 z1 z2 => J (z0, z1, z2)) x.1 x.2.1 x.2.2
def laws_markCallS_2_sp (n : Nat) : LSpec T := mkSpec T ⟨[], [0, 1, 5], [4503599627370496]⟩ laws_markCallS_2_sv laws_markCallS_2_so (Unit) (Int × Int × List SCall) laws_markCallS_2_emb laws_markCallS_2_prj (laws_markCallS_2_b n)
noncomputable def laws_markCallS_2_c : Code := ((loopCodes laws_markCallS_code)[0]?).getD .skip
def laws_markCallS_ann : Ann := fun id => bif Nat.beq id 3000002 then some ⟨[], [1], [4503599627370496]⟩ else none
def laws_markCallS_Ls (n : Nat) : Nat → Option (LSpec T) := fun id => bif Nat.beq id 2 then some (laws_markCallS_2_sp n) else none
theorem laws_markCallS_2_le (n : Nat) : LoopEq (T := T) (Phi n 17) (laws_markCallS_Ls n) laws_markCallS_ann n laws_markCallS_2_c (laws_markCallS_2_sp n) := ⟨mkSpec_dec (fun y => rfl), fun c x => by kernel_rfl, fun K J c x => by kernel_rfl⟩
theorem laws_markCallS_tie (n : Nat) (a0 : List SCall) (k1 : Int) : evF (T := T) (Phi n 17) (laws_markCallS_Ls n) laws_markCallS_ann n Try.f167 (sg 167) [vA T 136 a0, vA T 3 k1] laws_markCallS_dec = laws_markCallS n a0 k1 := by kernel_rfl
theorem laws_markCallS_lo (n : Nat) : LoopsOk (T := T) (Phi n 17) (laws_markCallS_Ls n) laws_markCallS_ann n laws_markCallS_code := loopsOk_all (cs := [laws_markCallS_2_c]) (by kernel_rfl) ⟨⟨_, by kernel_rfl, laws_markCallS_2_le n⟩, trivial⟩
theorem laws_markCallS_ok (n : Nat) : EntOk Try.prog (ents n) (laws_markCallS_ent n) := by
  intro hs ar y hg h
  replace h : laws_markCallS_D n ar = some y := h
  unfold laws_markCallS_D at h
  replace h := ocons_some h
  obtain ⟨a0, r0, rfl, h⟩ := h
  replace h := ocons_some h
  obtain ⟨a1, r1, rfl, h⟩ := h
  replace h := onil_some h
  obtain ⟨rfl, h⟩ := h
  obtain ⟨a0, qh0, h⟩ := obind_some h
  obtain ⟨k1, qh1, h⟩ := obind_some h
  rw [argV_eq ok qh0, argV_eq ok qh1]
  exact call_of (phiE_nat _ _) hs ok mixed Try.func167 (c := laws_markCallS_code) (by kernel_rfl) (laws_markCallS_lo n) (by kernel_rfl) (by kernel_rfl) (by kernel_rfl) laws_markCallS_de ((laws_markCallS_tie n a0 k1).trans h)
noncomputable def laws_markIntS_code : Code := match Try.f40.body with | some c => c | none => .skip
def laws_markIntS_2_sv : List Sv := [.one (.own 4503599627370496 3 false), .one (.int .i64), .one (.int .i64)]
def laws_markIntS_2_so : List So := [.arr 3 true]
def laws_markIntS_2_emb (c : Unit) (x : Int × Int × List Int) : EVs T laws_markIntS_2_sv × EOs T laws_markIntS_2_so := (((), x.1, x.2.1, ()), (x.2.2, ()))
def laws_markIntS_2_prj (y : EVs T laws_markIntS_2_sv × EOs T laws_markIntS_2_so) : Unit × (Int × Int × List Int) := ((), (y.1.2.1, y.1.2.2.1, y.2.1))
def laws_markIntS_2_b (n : Nat) {R : Type} (K : Ex → Sm.St T → Option R) (c : Unit) (x : Int × Int × List Int) (J : (Int × Int × List Int) → Option R) : Option R :=
  laws_markIntS_L2 n (fun (y0 : Int) (y1 : List Int) => K (.exit 0) (stOf (T := T) [1] [4503599627370496] [.one (.int .i64)] [.arr 3 true] (y0, ()) (y1, ()))) (fun z0 z1 z2 => J (z0, z1, z2)) x.1 x.2.1 x.2.2
def laws_markIntS_2_sp (n : Nat) : LSpec T := mkSpec T ⟨[], [0, 1, 5], [4503599627370496]⟩ laws_markIntS_2_sv laws_markIntS_2_so (Unit) (Int × Int × List Int) laws_markIntS_2_emb laws_markIntS_2_prj (laws_markIntS_2_b n)
noncomputable def laws_markIntS_2_c : Code := ((loopCodes laws_markIntS_code)[0]?).getD .skip
def laws_markIntS_ann : Ann := fun id => bif Nat.beq id 3000002 then some ⟨[], [1], [4503599627370496]⟩ else none
def laws_markIntS_Ls (n : Nat) : Nat → Option (LSpec T) := fun id => bif Nat.beq id 2 then some (laws_markIntS_2_sp n) else none
theorem laws_markIntS_2_le (n : Nat) : LoopEq (T := T) (Phi n 18) (laws_markIntS_Ls n) laws_markIntS_ann n laws_markIntS_2_c (laws_markIntS_2_sp n) := ⟨mkSpec_dec (fun y => rfl), fun c x => by kernel_rfl, fun K J c x => by kernel_rfl⟩
theorem laws_markIntS_tie (n : Nat) (a0 : List Int) (k1 : Int) : evF (T := T) (Phi n 18) (laws_markIntS_Ls n) laws_markIntS_ann n Try.f40 (sg 40) [vA T 55 a0, vA T 3 k1] laws_markIntS_dec = laws_markIntS n a0 k1 := by kernel_rfl
theorem laws_markIntS_lo (n : Nat) : LoopsOk (T := T) (Phi n 18) (laws_markIntS_Ls n) laws_markIntS_ann n laws_markIntS_code := loopsOk_all (cs := [laws_markIntS_2_c]) (by kernel_rfl) ⟨⟨_, by kernel_rfl, laws_markIntS_2_le n⟩, trivial⟩
theorem laws_markIntS_ok (n : Nat) : EntOk Try.prog (ents n) (laws_markIntS_ent n) := by
  intro hs ar y hg h
  replace h : laws_markIntS_D n ar = some y := h
  unfold laws_markIntS_D at h
  replace h := ocons_some h
  obtain ⟨a0, r0, rfl, h⟩ := h
  replace h := ocons_some h
  obtain ⟨a1, r1, rfl, h⟩ := h
  replace h := onil_some h
  obtain ⟨rfl, h⟩ := h
  obtain ⟨a0, qh0, h⟩ := obind_some h
  obtain ⟨k1, qh1, h⟩ := obind_some h
  rw [argV_eq ok qh0, argV_eq ok qh1]
  exact call_of (phiE_nat _ _) hs ok mixed Try.func40 (c := laws_markIntS_code) (by kernel_rfl) (laws_markIntS_lo n) (by kernel_rfl) (by kernel_rfl) (by kernel_rfl) laws_markIntS_de ((laws_markIntS_tie n a0 k1).trans h)
noncomputable def laws_markIntSS_code : Code := match Try.f108.body with | some c => c | none => .skip
def laws_markIntSS_2_sv : List Sv := [.one (.own 4503599627370496 55 false), .one (.int .i64), .one (.int .i64)]
def laws_markIntSS_2_so : List So := [.arr 55 true]
def laws_markIntSS_2_emb (c : Unit) (x : Int × Int × List (List Int)) : EVs T laws_markIntSS_2_sv × EOs T laws_markIntSS_2_so := (((), x.1, x.2.1, ()), (x.2.2, ()))
def laws_markIntSS_2_prj (y : EVs T laws_markIntSS_2_sv × EOs T laws_markIntSS_2_so) : Unit × (Int × Int × List (List Int)) := ((), (y.1.2.1, y.1.2.2.1, y.2.1))
def laws_markIntSS_2_b (n : Nat) {R : Type} (K : Ex → Sm.St T → Option R) (c : Unit) (x : Int × Int × List (List Int)) (J : (Int × Int × List (List Int)) → Option R) : Option R :=
  laws_markIntSS_L2 n (fun (y0 : Int) (y1 : List (List Int)) => K (.exit 0) (stOf (T := T) [1] [4503599627370496] [.one (.int .i64)] [.arr 55 true] (y0, ()) (y1, ()))) (fun z0 z1 z2 => J (z0, z1, z2)) x.1 x.2.1 x.2.2
def laws_markIntSS_2_sp (n : Nat) : LSpec T := mkSpec T ⟨[], [0, 1, 5], [4503599627370496]⟩ laws_markIntSS_2_sv laws_markIntSS_2_so (Unit) (Int × Int × List (List Int)) laws_markIntSS_2_emb laws_markIntSS_2_prj (laws_markIntSS_2_b n)
noncomputable def laws_markIntSS_2_c : Code := ((loopCodes laws_markIntSS_code)[0]?).getD .skip
def laws_markIntSS_ann : Ann := fun id => bif Nat.beq id 3000002 then some ⟨[], [1], [4503599627370496]⟩ else none
def laws_markIntSS_Ls (n : Nat) : Nat → Option (LSpec T) := fun id => bif Nat.beq id 2 then some (laws_markIntSS_2_sp n) else none
theorem laws_markIntSS_2_le (n : Nat) : LoopEq (T := T) (Phi n 19) (laws_markIntSS_Ls n) laws_markIntSS_ann n laws_markIntSS_2_c (laws_markIntSS_2_sp n) := ⟨mkSpec_dec (fun y => rfl), fun c x => by kernel_rfl, fun K J c x => by kernel_rfl⟩
theorem laws_markIntSS_tie (n : Nat) (a0 : List (List Int)) (k1 : Int) : evF (T := T) (Phi n 19) (laws_markIntSS_Ls n) laws_markIntSS_ann n Try.f108 (sg 108) [vA T 24 a0, vA T 3 k1] laws_markIntSS_dec = laws_markIntSS n a0 k1 := by kernel_rfl
theorem laws_markIntSS_lo (n : Nat) : LoopsOk (T := T) (Phi n 19) (laws_markIntSS_Ls n) laws_markIntSS_ann n laws_markIntSS_code := loopsOk_all (cs := [laws_markIntSS_2_c]) (by kernel_rfl) ⟨⟨_, by kernel_rfl, laws_markIntSS_2_le n⟩, trivial⟩
theorem laws_markIntSS_ok (n : Nat) : EntOk Try.prog (ents n) (laws_markIntSS_ent n) := by
  intro hs ar y hg h
  replace h : laws_markIntSS_D n ar = some y := h
  unfold laws_markIntSS_D at h
  replace h := ocons_some h
  obtain ⟨a0, r0, rfl, h⟩ := h
  replace h := ocons_some h
  obtain ⟨a1, r1, rfl, h⟩ := h
  replace h := onil_some h
  obtain ⟨rfl, h⟩ := h
  obtain ⟨a0, qh0, h⟩ := obind_some h
  obtain ⟨k1, qh1, h⟩ := obind_some h
  rw [argV_eq ok qh0, argV_eq ok qh1]
  exact call_of (phiE_nat _ _) hs ok mixed Try.func108 (c := laws_markIntSS_code) (by kernel_rfl) (laws_markIntSS_lo n) (by kernel_rfl) (by kernel_rfl) (by kernel_rfl) laws_markIntSS_de ((laws_markIntSS_tie n a0 k1).trans h)
noncomputable def laws_markYard_code : Code := match Try.f168.body with | some c => c | none => .skip
def laws_markYard_ann : Ann := fun id => none
def laws_markYard_Ls (n : Nat) : Nat → Option (LSpec T) := fun id => none
theorem laws_markYard_tie (n : Nat) (a0 : SYard) (k1 : Int) : evF (T := T) (Phi n 20) (laws_markYard_Ls n) laws_markYard_ann n Try.f168 (sg 168) [vA T 123 a0, vA T 3 k1] laws_markYard_dec = laws_markYard n a0 k1 := by kernel_rfl
theorem laws_markYard_lo (n : Nat) : LoopsOk (T := T) (Phi n 20) (laws_markYard_Ls n) laws_markYard_ann n laws_markYard_code := loopsOk_all (cs := []) (by kernel_rfl) trivial
theorem laws_markYard_ok (n : Nat) : EntOk Try.prog (ents n) (laws_markYard_ent n) := by
  intro hs ar y hg h
  replace h : laws_markYard_D n ar = some y := h
  unfold laws_markYard_D at h
  replace h := ocons_some h
  obtain ⟨a0, r0, rfl, h⟩ := h
  replace h := ocons_some h
  obtain ⟨a1, r1, rfl, h⟩ := h
  replace h := onil_some h
  obtain ⟨rfl, h⟩ := h
  obtain ⟨a0, qh0, h⟩ := obind_some h
  obtain ⟨k1, qh1, h⟩ := obind_some h
  rw [argV_eq ok qh0, argV_eq ok qh1]
  exact call_of (phiE_nat _ _) hs ok mixed Try.func168 (c := laws_markYard_code) (by kernel_rfl) (laws_markYard_lo n) (by kernel_rfl) (by kernel_rfl) (by kernel_rfl) laws_markYard_de ((laws_markYard_tie n a0 k1).trans h)
noncomputable def laws_markText_code : Code := match Try.f194.body with | some c => c | none => .skip
def laws_markText_4_sv : List Sv := [.one (.int .i64), .one (.str)]
def laws_markText_4_so : List So := []
def laws_markText_4_emb (c : Unit) (x : Int × ByteArray) : EVs T laws_markText_4_sv × EOs T laws_markText_4_so := ((x.1, x.2, ()), ())
def laws_markText_4_prj (y : EVs T laws_markText_4_sv × EOs T laws_markText_4_so) : Unit × (Int × ByteArray) := ((), (y.1.1, y.1.2.1))
def laws_markText_4_b (n : Nat) {R : Type} (K : Ex → Sm.St T → Option R) (c : Unit) (x : Int × ByteArray) (J : (Int × ByteArray) → Option R) : Option R :=
  laws_markText_L4 n (fun (y0 : ByteArray) => K (.exit 0) (stOf (T := T) [3] [] [.one (.str)] [] (y0, ()) ())) (fun z0 z1 => J (z0, z1)) x.1 x.2
def laws_markText_4_sp (n : Nat) : LSpec T := mkSpec T ⟨[], [0, 3], []⟩ laws_markText_4_sv laws_markText_4_so (Unit) (Int × ByteArray) laws_markText_4_emb laws_markText_4_prj (laws_markText_4_b n)
noncomputable def laws_markText_4_c : Code := ((loopCodes laws_markText_code)[0]?).getD .skip
def laws_markText_ann : Ann := fun id => bif Nat.beq id 3000004 then some ⟨[], [3], []⟩ else none
def laws_markText_Ls (n : Nat) : Nat → Option (LSpec T) := fun id => bif Nat.beq id 4 then some (laws_markText_4_sp n) else none
theorem laws_markText_4_le (n : Nat) : LoopEq (T := T) (Phi n 21) (laws_markText_Ls n) laws_markText_ann n laws_markText_4_c (laws_markText_4_sp n) := ⟨mkSpec_dec (fun y => rfl), fun c x => by kernel_rfl, fun K J c x => by kernel_rfl⟩
theorem laws_markText_tie (n : Nat) (k0 : Int) : evF (T := T) (Phi n 21) (laws_markText_Ls n) laws_markText_ann n Try.f194 (sg 194) [vA T 3 k0] laws_markText_dec = laws_markText n k0 := by kernel_rfl
theorem laws_markText_lo (n : Nat) : LoopsOk (T := T) (Phi n 21) (laws_markText_Ls n) laws_markText_ann n laws_markText_code := loopsOk_all (cs := [laws_markText_4_c]) (by kernel_rfl) ⟨⟨_, by kernel_rfl, laws_markText_4_le n⟩, trivial⟩
theorem laws_markText_ok (n : Nat) : EntOk Try.prog (ents n) (laws_markText_ent n) := by
  intro hs ar y hg h
  replace h : laws_markText_D n ar = some y := h
  unfold laws_markText_D at h
  replace h := ocons_some h
  obtain ⟨a0, r0, rfl, h⟩ := h
  replace h := onil_some h
  obtain ⟨rfl, h⟩ := h
  obtain ⟨k0, qh0, h⟩ := obind_some h
  rw [argV_eq ok qh0]
  exact call_of (phiE_nat _ _) hs ok mixed Try.func194 (c := laws_markText_code) (by kernel_rfl) (laws_markText_lo n) (by kernel_rfl) (by kernel_rfl) (by kernel_rfl) laws_markText_de ((laws_markText_tie n k0).trans h)
noncomputable def laws_markStringS_code : Code := match Try.f255.body with | some c => c | none => .skip
def laws_markStringS_2_sv : List Sv := [.one (.own 4503599627370496 9 false), .one (.int .i64), .one (.int .i64)]
def laws_markStringS_2_so : List So := [.arr 9 true]
def laws_markStringS_2_emb (c : Unit) (x : Int × Int × List ByteArray) : EVs T laws_markStringS_2_sv × EOs T laws_markStringS_2_so := (((), x.1, x.2.1, ()), (x.2.2, ()))
def laws_markStringS_2_prj (y : EVs T laws_markStringS_2_sv × EOs T laws_markStringS_2_so) : Unit × (Int × Int × List ByteArray) := ((), (y.1.2.1, y.1.2.2.1, y.2.1))
def laws_markStringS_2_b (n : Nat) {R : Type} (K : Ex → Sm.St T → Option R) (c : Unit) (x : Int × Int × List ByteArray) (J : (Int × Int × List ByteArray) → Option R) : Option R :=
  laws_markStringS_L2 n (fun (y0 : Int) (y1 : List ByteArray) => K (.exit 0) (stOf (T := T) [1] [4503599627370496] [.one (.int .i64)] [.arr 9 true] (y0, ()) (y1, ()))) (fun z0 z1 z2 => J (z0, z1, z2)) x.1 x.2.1 x.2.2
def laws_markStringS_2_sp (n : Nat) : LSpec T := mkSpec T ⟨[], [0, 1, 5], [4503599627370496]⟩ laws_markStringS_2_sv laws_markStringS_2_so (Unit) (Int × Int × List ByteArray) laws_markStringS_2_emb laws_markStringS_2_prj (laws_markStringS_2_b n)
noncomputable def laws_markStringS_2_c : Code := ((loopCodes laws_markStringS_code)[0]?).getD .skip
def laws_markStringS_ann : Ann := fun id => bif Nat.beq id 3000002 then some ⟨[], [1], [4503599627370496]⟩ else none
def laws_markStringS_Ls (n : Nat) : Nat → Option (LSpec T) := fun id => bif Nat.beq id 2 then some (laws_markStringS_2_sp n) else none
theorem laws_markStringS_2_le (n : Nat) : LoopEq (T := T) (Phi n 22) (laws_markStringS_Ls n) laws_markStringS_ann n laws_markStringS_2_c (laws_markStringS_2_sp n) := ⟨mkSpec_dec (fun y => rfl), fun c x => by kernel_rfl, fun K J c x => by kernel_rfl⟩
theorem laws_markStringS_tie (n : Nat) (a0 : List ByteArray) (k1 : Int) : evF (T := T) (Phi n 22) (laws_markStringS_Ls n) laws_markStringS_ann n Try.f255 (sg 255) [vA T 270 a0, vA T 3 k1] laws_markStringS_dec = laws_markStringS n a0 k1 := by kernel_rfl
theorem laws_markStringS_lo (n : Nat) : LoopsOk (T := T) (Phi n 22) (laws_markStringS_Ls n) laws_markStringS_ann n laws_markStringS_code := loopsOk_all (cs := [laws_markStringS_2_c]) (by kernel_rfl) ⟨⟨_, by kernel_rfl, laws_markStringS_2_le n⟩, trivial⟩
theorem laws_markStringS_ok (n : Nat) : EntOk Try.prog (ents n) (laws_markStringS_ent n) := by
  intro hs ar y hg h
  replace h : laws_markStringS_D n ar = some y := h
  unfold laws_markStringS_D at h
  replace h := ocons_some h
  obtain ⟨a0, r0, rfl, h⟩ := h
  replace h := ocons_some h
  obtain ⟨a1, r1, rfl, h⟩ := h
  replace h := onil_some h
  obtain ⟨rfl, h⟩ := h
  obtain ⟨a0, qh0, h⟩ := obind_some h
  obtain ⟨k1, qh1, h⟩ := obind_some h
  rw [argV_eq ok qh0, argV_eq ok qh1]
  exact call_of (phiE_nat _ _) hs ok mixed Try.func255 (c := laws_markStringS_code) (by kernel_rfl) (laws_markStringS_lo n) (by kernel_rfl) (by kernel_rfl) (by kernel_rfl) laws_markStringS_de ((laws_markStringS_tie n a0 k1).trans h)
noncomputable def laws_markBillS_code : Code := match Try.f229.body with | some c => c | none => .skip
def laws_markBillS_2_sv : List Sv := [.one (.own 4503599627370496 304 false), .one (.int .i64), .one (.int .i64)]
def laws_markBillS_2_so : List So := [.arr 304 true]
def laws_markBillS_2_emb (c : Unit) (x : Int × Int × List SBill) : EVs T laws_markBillS_2_sv × EOs T laws_markBillS_2_so := (((), x.1, x.2.1, ()), (x.2.2, ()))
def laws_markBillS_2_prj (y : EVs T laws_markBillS_2_sv × EOs T laws_markBillS_2_so) : Unit × (Int × Int × List SBill) := ((), (y.1.2.1, y.1.2.2.1, y.2.1))
def laws_markBillS_2_b (n : Nat) {R : Type} (K : Ex → Sm.St T → Option R) (c : Unit) (x : Int × Int × List SBill) (J : (Int × Int × List SBill) → Option R) : Option R :=
  laws_markBillS_L2 n (fun (y0 : Int) (y1 : List SBill) => K (.exit 0) (stOf (T := T) [1] [4503599627370496] [.one (.int .i64)] [.arr 304 true] (y0, ()) (y1, ()))) (fun z0 z1 z2 => J (z0, z1, z2)) x.1 x.2.1 x.2.2
def laws_markBillS_2_sp (n : Nat) : LSpec T := mkSpec T ⟨[], [0, 1, 5], [4503599627370496]⟩ laws_markBillS_2_sv laws_markBillS_2_so (Unit) (Int × Int × List SBill) laws_markBillS_2_emb laws_markBillS_2_prj (laws_markBillS_2_b n)
noncomputable def laws_markBillS_2_c : Code := ((loopCodes laws_markBillS_code)[0]?).getD .skip
def laws_markBillS_ann : Ann := fun id => bif Nat.beq id 3000002 then some ⟨[], [1], [4503599627370496]⟩ else none
def laws_markBillS_Ls (n : Nat) : Nat → Option (LSpec T) := fun id => bif Nat.beq id 2 then some (laws_markBillS_2_sp n) else none
theorem laws_markBillS_2_le (n : Nat) : LoopEq (T := T) (Phi n 23) (laws_markBillS_Ls n) laws_markBillS_ann n laws_markBillS_2_c (laws_markBillS_2_sp n) := ⟨mkSpec_dec (fun y => rfl), fun c x => by kernel_rfl, fun K J c x => by kernel_rfl⟩
theorem laws_markBillS_tie (n : Nat) (a0 : List SBill) (k1 : Int) : evF (T := T) (Phi n 23) (laws_markBillS_Ls n) laws_markBillS_ann n Try.f229 (sg 229) [vA T 137 a0, vA T 3 k1] laws_markBillS_dec = laws_markBillS n a0 k1 := by kernel_rfl
theorem laws_markBillS_lo (n : Nat) : LoopsOk (T := T) (Phi n 23) (laws_markBillS_Ls n) laws_markBillS_ann n laws_markBillS_code := loopsOk_all (cs := [laws_markBillS_2_c]) (by kernel_rfl) ⟨⟨_, by kernel_rfl, laws_markBillS_2_le n⟩, trivial⟩
theorem laws_markBillS_ok (n : Nat) : EntOk Try.prog (ents n) (laws_markBillS_ent n) := by
  intro hs ar y hg h
  replace h : laws_markBillS_D n ar = some y := h
  unfold laws_markBillS_D at h
  replace h := ocons_some h
  obtain ⟨a0, r0, rfl, h⟩ := h
  replace h := ocons_some h
  obtain ⟨a1, r1, rfl, h⟩ := h
  replace h := onil_some h
  obtain ⟨rfl, h⟩ := h
  obtain ⟨a0, qh0, h⟩ := obind_some h
  obtain ⟨k1, qh1, h⟩ := obind_some h
  rw [argV_eq ok qh0, argV_eq ok qh1]
  exact call_of (phiE_nat _ _) hs ok mixed Try.func229 (c := laws_markBillS_code) (by kernel_rfl) (laws_markBillS_lo n) (by kernel_rfl) (by kernel_rfl) (by kernel_rfl) laws_markBillS_de ((laws_markBillS_tie n a0 k1).trans h)
noncomputable def laws_markBook_code : Code := match Try.f169.body with | some c => c | none => .skip
def laws_markBook_ann : Ann := fun id => none
def laws_markBook_Ls (n : Nat) : Nat → Option (LSpec T) := fun id => none
theorem laws_markBook_tie (n : Nat) (a0 : SBook) (k1 : Int) : evF (T := T) (Phi n 24) (laws_markBook_Ls n) laws_markBook_ann n Try.f169 (sg 169) [vA T 139 a0, vA T 3 k1] laws_markBook_dec = laws_markBook n a0 k1 := by kernel_rfl
theorem laws_markBook_lo (n : Nat) : LoopsOk (T := T) (Phi n 24) (laws_markBook_Ls n) laws_markBook_ann n laws_markBook_code := loopsOk_all (cs := []) (by kernel_rfl) trivial
theorem laws_markBook_ok (n : Nat) : EntOk Try.prog (ents n) (laws_markBook_ent n) := by
  intro hs ar y hg h
  replace h : laws_markBook_D n ar = some y := h
  unfold laws_markBook_D at h
  replace h := ocons_some h
  obtain ⟨a0, r0, rfl, h⟩ := h
  replace h := ocons_some h
  obtain ⟨a1, r1, rfl, h⟩ := h
  replace h := onil_some h
  obtain ⟨rfl, h⟩ := h
  obtain ⟨a0, qh0, h⟩ := obind_some h
  obtain ⟨k1, qh1, h⟩ := obind_some h
  rw [argV_eq ok qh0, argV_eq ok qh1]
  exact call_of (phiE_nat _ _) hs ok mixed Try.func169 (c := laws_markBook_code) (by kernel_rfl) (laws_markBook_lo n) (by kernel_rfl) (by kernel_rfl) (by kernel_rfl) laws_markBook_de ((laws_markBook_tie n a0 k1).trans h)
noncomputable def laws_markLotS_code : Code := match Try.f230.body with | some c => c | none => .skip
def laws_markLotS_2_sv : List Sv := [.one (.own 4503599627370496 307 false), .one (.int .i64), .one (.int .i64)]
def laws_markLotS_2_so : List So := [.arr 307 true]
def laws_markLotS_2_emb (c : Unit) (x : Int × Int × List SLot) : EVs T laws_markLotS_2_sv × EOs T laws_markLotS_2_so := (((), x.1, x.2.1, ()), (x.2.2, ()))
def laws_markLotS_2_prj (y : EVs T laws_markLotS_2_sv × EOs T laws_markLotS_2_so) : Unit × (Int × Int × List SLot) := ((), (y.1.2.1, y.1.2.2.1, y.2.1))
def laws_markLotS_2_b (n : Nat) {R : Type} (K : Ex → Sm.St T → Option R) (c : Unit) (x : Int × Int × List SLot) (J : (Int × Int × List SLot) → Option R) : Option R :=
  laws_markLotS_L2 n (fun (y0 : Int) (y1 : List SLot) => K (.exit 0) (stOf (T := T) [1] [4503599627370496] [.one (.int .i64)] [.arr 307 true] (y0, ()) (y1, ()))) (fun z0 z1 z2 => J (z0, z1, z2)) x.1 x.2.1 x.2.2
def laws_markLotS_2_sp (n : Nat) : LSpec T := mkSpec T ⟨[], [0, 1, 5], [4503599627370496]⟩ laws_markLotS_2_sv laws_markLotS_2_so (Unit) (Int × Int × List SLot) laws_markLotS_2_emb laws_markLotS_2_prj (laws_markLotS_2_b n)
noncomputable def laws_markLotS_2_c : Code := ((loopCodes laws_markLotS_code)[0]?).getD .skip
def laws_markLotS_ann : Ann := fun id => bif Nat.beq id 3000002 then some ⟨[], [1], [4503599627370496]⟩ else none
def laws_markLotS_Ls (n : Nat) : Nat → Option (LSpec T) := fun id => bif Nat.beq id 2 then some (laws_markLotS_2_sp n) else none
theorem laws_markLotS_2_le (n : Nat) : LoopEq (T := T) (Phi n 25) (laws_markLotS_Ls n) laws_markLotS_ann n laws_markLotS_2_c (laws_markLotS_2_sp n) := ⟨mkSpec_dec (fun y => rfl), fun c x => by kernel_rfl, fun K J c x => by kernel_rfl⟩
theorem laws_markLotS_tie (n : Nat) (a0 : List SLot) (k1 : Int) : evF (T := T) (Phi n 25) (laws_markLotS_Ls n) laws_markLotS_ann n Try.f230 (sg 230) [vA T 140 a0, vA T 3 k1] laws_markLotS_dec = laws_markLotS n a0 k1 := by kernel_rfl
theorem laws_markLotS_lo (n : Nat) : LoopsOk (T := T) (Phi n 25) (laws_markLotS_Ls n) laws_markLotS_ann n laws_markLotS_code := loopsOk_all (cs := [laws_markLotS_2_c]) (by kernel_rfl) ⟨⟨_, by kernel_rfl, laws_markLotS_2_le n⟩, trivial⟩
theorem laws_markLotS_ok (n : Nat) : EntOk Try.prog (ents n) (laws_markLotS_ent n) := by
  intro hs ar y hg h
  replace h : laws_markLotS_D n ar = some y := h
  unfold laws_markLotS_D at h
  replace h := ocons_some h
  obtain ⟨a0, r0, rfl, h⟩ := h
  replace h := ocons_some h
  obtain ⟨a1, r1, rfl, h⟩ := h
  replace h := onil_some h
  obtain ⟨rfl, h⟩ := h
  obtain ⟨a0, qh0, h⟩ := obind_some h
  obtain ⟨k1, qh1, h⟩ := obind_some h
  rw [argV_eq ok qh0, argV_eq ok qh1]
  exact call_of (phiE_nat _ _) hs ok mixed Try.func230 (c := laws_markLotS_code) (by kernel_rfl) (laws_markLotS_lo n) (by kernel_rfl) (by kernel_rfl) (by kernel_rfl) laws_markLotS_de ((laws_markLotS_tie n a0 k1).trans h)
noncomputable def laws_markTraderS_code : Code := match Try.f231.body with | some c => c | none => .skip
def laws_markTraderS_2_sv : List Sv := [.one (.own 4503599627370496 229 false), .one (.int .i64), .one (.int .i64)]
def laws_markTraderS_2_so : List So := [.arr 229 true]
def laws_markTraderS_2_emb (c : Unit) (x : Int × Int × List STrader) : EVs T laws_markTraderS_2_sv × EOs T laws_markTraderS_2_so := (((), x.1, x.2.1, ()), (x.2.2, ()))
def laws_markTraderS_2_prj (y : EVs T laws_markTraderS_2_sv × EOs T laws_markTraderS_2_so) : Unit × (Int × Int × List STrader) := ((), (y.1.2.1, y.1.2.2.1, y.2.1))
def laws_markTraderS_2_b (n : Nat) {R : Type} (K : Ex → Sm.St T → Option R) (c : Unit) (x : Int × Int × List STrader) (J : (Int × Int × List STrader) → Option R) : Option R :=
  laws_markTraderS_L2 n (fun (y0 : Int) (y1 : List STrader) => K (.exit 0) (stOf (T := T) [1] [4503599627370496] [.one (.int .i64)] [.arr 229 true] (y0, ()) (y1, ()))) (fun z0 z1 z2 => J (z0, z1, z2)) x.1 x.2.1 x.2.2
def laws_markTraderS_2_sp (n : Nat) : LSpec T := mkSpec T ⟨[], [0, 1, 5], [4503599627370496]⟩ laws_markTraderS_2_sv laws_markTraderS_2_so (Unit) (Int × Int × List STrader) laws_markTraderS_2_emb laws_markTraderS_2_prj (laws_markTraderS_2_b n)
noncomputable def laws_markTraderS_2_c : Code := ((loopCodes laws_markTraderS_code)[0]?).getD .skip
def laws_markTraderS_ann : Ann := fun id => bif Nat.beq id 3000002 then some ⟨[], [1], [4503599627370496]⟩ else none
def laws_markTraderS_Ls (n : Nat) : Nat → Option (LSpec T) := fun id => bif Nat.beq id 2 then some (laws_markTraderS_2_sp n) else none
theorem laws_markTraderS_2_le (n : Nat) : LoopEq (T := T) (Phi n 26) (laws_markTraderS_Ls n) laws_markTraderS_ann n laws_markTraderS_2_c (laws_markTraderS_2_sp n) := ⟨mkSpec_dec (fun y => rfl), fun c x => by kernel_rfl, fun K J c x => by kernel_rfl⟩
theorem laws_markTraderS_tie (n : Nat) (a0 : List STrader) (k1 : Int) : evF (T := T) (Phi n 26) (laws_markTraderS_Ls n) laws_markTraderS_ann n Try.f231 (sg 231) [vA T 141 a0, vA T 3 k1] laws_markTraderS_dec = laws_markTraderS n a0 k1 := by kernel_rfl
theorem laws_markTraderS_lo (n : Nat) : LoopsOk (T := T) (Phi n 26) (laws_markTraderS_Ls n) laws_markTraderS_ann n laws_markTraderS_code := loopsOk_all (cs := [laws_markTraderS_2_c]) (by kernel_rfl) ⟨⟨_, by kernel_rfl, laws_markTraderS_2_le n⟩, trivial⟩
theorem laws_markTraderS_ok (n : Nat) : EntOk Try.prog (ents n) (laws_markTraderS_ent n) := by
  intro hs ar y hg h
  replace h : laws_markTraderS_D n ar = some y := h
  unfold laws_markTraderS_D at h
  replace h := ocons_some h
  obtain ⟨a0, r0, rfl, h⟩ := h
  replace h := ocons_some h
  obtain ⟨a1, r1, rfl, h⟩ := h
  replace h := onil_some h
  obtain ⟨rfl, h⟩ := h
  obtain ⟨a0, qh0, h⟩ := obind_some h
  obtain ⟨k1, qh1, h⟩ := obind_some h
  rw [argV_eq ok qh0, argV_eq ok qh1]
  exact call_of (phiE_nat _ _) hs ok mixed Try.func231 (c := laws_markTraderS_code) (by kernel_rfl) (laws_markTraderS_lo n) (by kernel_rfl) (by kernel_rfl) (by kernel_rfl) laws_markTraderS_de ((laws_markTraderS_tie n a0 k1).trans h)
noncomputable def laws_markHouse_code : Code := match Try.f170.body with | some c => c | none => .skip
def laws_markHouse_ann : Ann := fun id => none
def laws_markHouse_Ls (n : Nat) : Nat → Option (LSpec T) := fun id => none
theorem laws_markHouse_tie (n : Nat) (a0 : SHouse) (k1 : Int) : evF (T := T) (Phi n 27) (laws_markHouse_Ls n) laws_markHouse_ann n Try.f170 (sg 170) [vA T 143 a0, vA T 3 k1] laws_markHouse_dec = laws_markHouse n a0 k1 := by kernel_rfl
theorem laws_markHouse_lo (n : Nat) : LoopsOk (T := T) (Phi n 27) (laws_markHouse_Ls n) laws_markHouse_ann n laws_markHouse_code := loopsOk_all (cs := []) (by kernel_rfl) trivial
theorem laws_markHouse_ok (n : Nat) : EntOk Try.prog (ents n) (laws_markHouse_ent n) := by
  intro hs ar y hg h
  replace h : laws_markHouse_D n ar = some y := h
  unfold laws_markHouse_D at h
  replace h := ocons_some h
  obtain ⟨a0, r0, rfl, h⟩ := h
  replace h := ocons_some h
  obtain ⟨a1, r1, rfl, h⟩ := h
  replace h := onil_some h
  obtain ⟨rfl, h⟩ := h
  obtain ⟨a0, qh0, h⟩ := obind_some h
  obtain ⟨k1, qh1, h⟩ := obind_some h
  rw [argV_eq ok qh0, argV_eq ok qh1]
  exact call_of (phiE_nat _ _) hs ok mixed Try.func170 (c := laws_markHouse_code) (by kernel_rfl) (laws_markHouse_lo n) (by kernel_rfl) (by kernel_rfl) (by kernel_rfl) laws_markHouse_de ((laws_markHouse_tie n a0 k1).trans h)
noncomputable def laws_markPort_code : Code := match Try.f85.body with | some c => c | none => .skip
def laws_markPort_ann : Ann := fun id => none
def laws_markPort_Ls (n : Nat) : Nat → Option (LSpec T) := fun id => none
theorem laws_markPort_tie (n : Nat) (a0 : SPort) (k1 : Int) : evF (T := T) (Phi n 28) (laws_markPort_Ls n) laws_markPort_ann n Try.f85 (sg 85) [vA T 145 a0, vA T 3 k1] laws_markPort_dec = laws_markPort n a0 k1 := by kernel_rfl
theorem laws_markPort_lo (n : Nat) : LoopsOk (T := T) (Phi n 28) (laws_markPort_Ls n) laws_markPort_ann n laws_markPort_code := loopsOk_all (cs := []) (by kernel_rfl) trivial
theorem laws_markPort_ok (n : Nat) : EntOk Try.prog (ents n) (laws_markPort_ent n) := by
  intro hs ar y hg h
  replace h : laws_markPort_D n ar = some y := h
  unfold laws_markPort_D at h
  replace h := ocons_some h
  obtain ⟨a0, r0, rfl, h⟩ := h
  replace h := ocons_some h
  obtain ⟨a1, r1, rfl, h⟩ := h
  replace h := onil_some h
  obtain ⟨rfl, h⟩ := h
  obtain ⟨a0, qh0, h⟩ := obind_some h
  obtain ⟨k1, qh1, h⟩ := obind_some h
  rw [argV_eq ok qh0, argV_eq ok qh1]
  exact call_of (phiE_nat _ _) hs ok mixed Try.func85 (c := laws_markPort_code) (by kernel_rfl) (laws_markPort_lo n) (by kernel_rfl) (by kernel_rfl) (by kernel_rfl) laws_markPort_de ((laws_markPort_tie n a0 k1).trans h)
noncomputable def laws_heldCallS_code : Code := match Try.f171.body with | some c => c | none => .skip
def laws_heldCallS_2_sv : List Sv := [.one (.arr 281), .one (.int .i64), .one (.int .i64)]
def laws_heldCallS_2_so : List So := []
def laws_heldCallS_2_emb (c : List SCall) (x : Int × Int) : EVs T laws_heldCallS_2_sv × EOs T laws_heldCallS_2_so := ((c, x.1, x.2, ()), ())
def laws_heldCallS_2_prj (y : EVs T laws_heldCallS_2_sv × EOs T laws_heldCallS_2_so) : List SCall × (Int × Int) := ((y.1.1), (y.1.2.1, y.1.2.2.1))
def laws_heldCallS_2_b (n : Nat) {R : Type} (K : Ex → Sm.St T → Option R) (c : List SCall) (x : Int × Int) (J : (Int × Int) → Option R) : Option R :=
  laws_heldCallS_L2 n (fun (y0 : Int) => K (.exit 0) (stOf (T := T) [1] [] [.one (.int .i64)] [] (y0, ()) ())) (fun (y0 : Int) => K .ret (stOf (T := T) [4] [] [.one (.int .i64)] [] (y0, ()) ())) (fun z0 z1 => J (z0, z1)) c x.1 x.2
def laws_heldCallS_2_sp (n : Nat) : LSpec T := mkSpec T ⟨[], [0, 1, 5], []⟩ laws_heldCallS_2_sv laws_heldCallS_2_so (List SCall) (Int × Int) laws_heldCallS_2_emb laws_heldCallS_2_prj (laws_heldCallS_2_b n)
noncomputable def laws_heldCallS_2_c : Code := ((loopCodes laws_heldCallS_code)[0]?).getD .skip
def laws_heldCallS_ann : Ann := fun id => bif Nat.beq id 3000002 then some ⟨[], [1], []⟩ else bif Nat.beq id 2000002 then some ⟨[], [4], []⟩ else none
def laws_heldCallS_Ls (n : Nat) : Nat → Option (LSpec T) := fun id => bif Nat.beq id 2 then some (laws_heldCallS_2_sp n) else none
theorem laws_heldCallS_2_le (n : Nat) : LoopEq (T := T) (Phi n 29) (laws_heldCallS_Ls n) laws_heldCallS_ann n laws_heldCallS_2_c (laws_heldCallS_2_sp n) := ⟨mkSpec_dec (fun y => rfl), fun c x => by kernel_rfl, fun K J c x => by kernel_rfl⟩
theorem laws_heldCallS_tie (n : Nat) (a0 : List SCall) (k1 : Int) : evF (T := T) (Phi n 29) (laws_heldCallS_Ls n) laws_heldCallS_ann n Try.f171 (sg 171) [vA T 136 a0, vA T 3 k1] laws_heldCallS_dec = laws_heldCallS n a0 k1 := by kernel_rfl
theorem laws_heldCallS_lo (n : Nat) : LoopsOk (T := T) (Phi n 29) (laws_heldCallS_Ls n) laws_heldCallS_ann n laws_heldCallS_code := loopsOk_all (cs := [laws_heldCallS_2_c]) (by kernel_rfl) ⟨⟨_, by kernel_rfl, laws_heldCallS_2_le n⟩, trivial⟩
theorem laws_heldCallS_ok (n : Nat) : EntOk Try.prog (ents n) (laws_heldCallS_ent n) := by
  intro hs ar y hg h
  replace h : laws_heldCallS_D n ar = some y := h
  unfold laws_heldCallS_D at h
  replace h := ocons_some h
  obtain ⟨a0, r0, rfl, h⟩ := h
  replace h := ocons_some h
  obtain ⟨a1, r1, rfl, h⟩ := h
  replace h := onil_some h
  obtain ⟨rfl, h⟩ := h
  obtain ⟨a0, qh0, h⟩ := obind_some h
  obtain ⟨k1, qh1, h⟩ := obind_some h
  rw [argV_eq ok qh0, argV_eq ok qh1]
  exact call_of (phiE_nat _ _) hs ok mixed Try.func171 (c := laws_heldCallS_code) (by kernel_rfl) (laws_heldCallS_lo n) (by kernel_rfl) (by kernel_rfl) (by kernel_rfl) laws_heldCallS_de ((laws_heldCallS_tie n a0 k1).trans h)
noncomputable def laws_heldIntS_code : Code := match Try.f41.body with | some c => c | none => .skip
def laws_heldIntS_2_sv : List Sv := [.one (.arr 3), .one (.int .i64), .one (.int .i64)]
def laws_heldIntS_2_so : List So := []
def laws_heldIntS_2_emb (c : List Int) (x : Int × Int) : EVs T laws_heldIntS_2_sv × EOs T laws_heldIntS_2_so := ((c, x.1, x.2, ()), ())
def laws_heldIntS_2_prj (y : EVs T laws_heldIntS_2_sv × EOs T laws_heldIntS_2_so) : List Int × (Int × Int) := ((y.1.1), (y.1.2.1, y.1.2.2.1))
def laws_heldIntS_2_b (n : Nat) {R : Type} (K : Ex → Sm.St T → Option R) (c : List Int) (x : Int × Int) (J : (Int × Int) → Option R) : Option R :=
  laws_heldIntS_L2 n (fun (y0 : Int) => K (.exit 0) (stOf (T := T) [1] [] [.one (.int .i64)] [] (y0, ()) ())) (fun (y0 : Int) => K .ret (stOf (T := T) [4] [] [.one (.int .i64)] [] (y0, ()) ())) (fun z0 z1 => J (z0, z1)) c x.1 x.2
def laws_heldIntS_2_sp (n : Nat) : LSpec T := mkSpec T ⟨[], [0, 1, 5], []⟩ laws_heldIntS_2_sv laws_heldIntS_2_so (List Int) (Int × Int) laws_heldIntS_2_emb laws_heldIntS_2_prj (laws_heldIntS_2_b n)
noncomputable def laws_heldIntS_2_c : Code := ((loopCodes laws_heldIntS_code)[0]?).getD .skip
def laws_heldIntS_ann : Ann := fun id => bif Nat.beq id 3000002 then some ⟨[], [1], []⟩ else bif Nat.beq id 2000002 then some ⟨[], [4], []⟩ else none
def laws_heldIntS_Ls (n : Nat) : Nat → Option (LSpec T) := fun id => bif Nat.beq id 2 then some (laws_heldIntS_2_sp n) else none
theorem laws_heldIntS_2_le (n : Nat) : LoopEq (T := T) (Phi n 30) (laws_heldIntS_Ls n) laws_heldIntS_ann n laws_heldIntS_2_c (laws_heldIntS_2_sp n) := ⟨mkSpec_dec (fun y => rfl), fun c x => by kernel_rfl, fun K J c x => by kernel_rfl⟩
theorem laws_heldIntS_tie (n : Nat) (a0 : List Int) (k1 : Int) : evF (T := T) (Phi n 30) (laws_heldIntS_Ls n) laws_heldIntS_ann n Try.f41 (sg 41) [vA T 55 a0, vA T 3 k1] laws_heldIntS_dec = laws_heldIntS n a0 k1 := by kernel_rfl
theorem laws_heldIntS_lo (n : Nat) : LoopsOk (T := T) (Phi n 30) (laws_heldIntS_Ls n) laws_heldIntS_ann n laws_heldIntS_code := loopsOk_all (cs := [laws_heldIntS_2_c]) (by kernel_rfl) ⟨⟨_, by kernel_rfl, laws_heldIntS_2_le n⟩, trivial⟩
theorem laws_heldIntS_ok (n : Nat) : EntOk Try.prog (ents n) (laws_heldIntS_ent n) := by
  intro hs ar y hg h
  replace h : laws_heldIntS_D n ar = some y := h
  unfold laws_heldIntS_D at h
  replace h := ocons_some h
  obtain ⟨a0, r0, rfl, h⟩ := h
  replace h := ocons_some h
  obtain ⟨a1, r1, rfl, h⟩ := h
  replace h := onil_some h
  obtain ⟨rfl, h⟩ := h
  obtain ⟨a0, qh0, h⟩ := obind_some h
  obtain ⟨k1, qh1, h⟩ := obind_some h
  rw [argV_eq ok qh0, argV_eq ok qh1]
  exact call_of (phiE_nat _ _) hs ok mixed Try.func41 (c := laws_heldIntS_code) (by kernel_rfl) (laws_heldIntS_lo n) (by kernel_rfl) (by kernel_rfl) (by kernel_rfl) laws_heldIntS_de ((laws_heldIntS_tie n a0 k1).trans h)
noncomputable def laws_heldIntSS_code : Code := match Try.f109.body with | some c => c | none => .skip
def laws_heldIntSS_2_sv : List Sv := [.one (.arr 55), .one (.int .i64), .one (.int .i64)]
def laws_heldIntSS_2_so : List So := []
def laws_heldIntSS_2_emb (c : List (List Int)) (x : Int × Int) : EVs T laws_heldIntSS_2_sv × EOs T laws_heldIntSS_2_so := ((c, x.1, x.2, ()), ())
def laws_heldIntSS_2_prj (y : EVs T laws_heldIntSS_2_sv × EOs T laws_heldIntSS_2_so) : List (List Int) × (Int × Int) := ((y.1.1), (y.1.2.1, y.1.2.2.1))
def laws_heldIntSS_2_b (n : Nat) {R : Type} (K : Ex → Sm.St T → Option R) (c : List (List Int)) (x : Int × Int) (J : (Int × Int) → Option R) : Option R :=
  laws_heldIntSS_L2 n (fun (y0 : Int) => K (.exit 0) (stOf (T := T) [1] [] [.one (.int .i64)] [] (y0, ()) ())) (fun (y0 : Int) => K .ret (stOf (T := T) [4] [] [.one (.int .i64)] [] (y0, ()) ())) (fun z0 z1 => J (z0, z1)) c x.1 x.2
def laws_heldIntSS_2_sp (n : Nat) : LSpec T := mkSpec T ⟨[], [0, 1, 5], []⟩ laws_heldIntSS_2_sv laws_heldIntSS_2_so (List (List Int)) (Int × Int) laws_heldIntSS_2_emb laws_heldIntSS_2_prj (laws_heldIntSS_2_b n)
noncomputable def laws_heldIntSS_2_c : Code := ((loopCodes laws_heldIntSS_code)[0]?).getD .skip
def laws_heldIntSS_ann : Ann := fun id => bif Nat.beq id 3000002 then some ⟨[], [1], []⟩ else bif Nat.beq id 2000002 then some ⟨[], [4], []⟩ else none
def laws_heldIntSS_Ls (n : Nat) : Nat → Option (LSpec T) := fun id => bif Nat.beq id 2 then some (laws_heldIntSS_2_sp n) else none
theorem laws_heldIntSS_2_le (n : Nat) : LoopEq (T := T) (Phi n 31) (laws_heldIntSS_Ls n) laws_heldIntSS_ann n laws_heldIntSS_2_c (laws_heldIntSS_2_sp n) := ⟨mkSpec_dec (fun y => rfl), fun c x => by kernel_rfl, fun K J c x => by kernel_rfl⟩
theorem laws_heldIntSS_tie (n : Nat) (a0 : List (List Int)) (k1 : Int) : evF (T := T) (Phi n 31) (laws_heldIntSS_Ls n) laws_heldIntSS_ann n Try.f109 (sg 109) [vA T 24 a0, vA T 3 k1] laws_heldIntSS_dec = laws_heldIntSS n a0 k1 := by kernel_rfl
theorem laws_heldIntSS_lo (n : Nat) : LoopsOk (T := T) (Phi n 31) (laws_heldIntSS_Ls n) laws_heldIntSS_ann n laws_heldIntSS_code := loopsOk_all (cs := [laws_heldIntSS_2_c]) (by kernel_rfl) ⟨⟨_, by kernel_rfl, laws_heldIntSS_2_le n⟩, trivial⟩
theorem laws_heldIntSS_ok (n : Nat) : EntOk Try.prog (ents n) (laws_heldIntSS_ent n) := by
  intro hs ar y hg h
  replace h : laws_heldIntSS_D n ar = some y := h
  unfold laws_heldIntSS_D at h
  replace h := ocons_some h
  obtain ⟨a0, r0, rfl, h⟩ := h
  replace h := ocons_some h
  obtain ⟨a1, r1, rfl, h⟩ := h
  replace h := onil_some h
  obtain ⟨rfl, h⟩ := h
  obtain ⟨a0, qh0, h⟩ := obind_some h
  obtain ⟨k1, qh1, h⟩ := obind_some h
  rw [argV_eq ok qh0, argV_eq ok qh1]
  exact call_of (phiE_nat _ _) hs ok mixed Try.func109 (c := laws_heldIntSS_code) (by kernel_rfl) (laws_heldIntSS_lo n) (by kernel_rfl) (by kernel_rfl) (by kernel_rfl) laws_heldIntSS_de ((laws_heldIntSS_tie n a0 k1).trans h)
noncomputable def laws_heldYard_code : Code := match Try.f172.body with | some c => c | none => .skip
def laws_heldYard_ann : Ann := fun id => none
def laws_heldYard_Ls (n : Nat) : Nat → Option (LSpec T) := fun id => none
theorem laws_heldYard_tie (n : Nat) (a0 : SYard) (k1 : Int) : evF (T := T) (Phi n 32) (laws_heldYard_Ls n) laws_heldYard_ann n Try.f172 (sg 172) [vA T 123 a0, vA T 3 k1] laws_heldYard_dec = laws_heldYard n a0 k1 := by kernel_rfl
theorem laws_heldYard_lo (n : Nat) : LoopsOk (T := T) (Phi n 32) (laws_heldYard_Ls n) laws_heldYard_ann n laws_heldYard_code := loopsOk_all (cs := []) (by kernel_rfl) trivial
theorem laws_heldYard_ok (n : Nat) : EntOk Try.prog (ents n) (laws_heldYard_ent n) := by
  intro hs ar y hg h
  replace h : laws_heldYard_D n ar = some y := h
  unfold laws_heldYard_D at h
  replace h := ocons_some h
  obtain ⟨a0, r0, rfl, h⟩ := h
  replace h := ocons_some h
  obtain ⟨a1, r1, rfl, h⟩ := h
  replace h := onil_some h
  obtain ⟨rfl, h⟩ := h
  obtain ⟨a0, qh0, h⟩ := obind_some h
  obtain ⟨k1, qh1, h⟩ := obind_some h
  rw [argV_eq ok qh0, argV_eq ok qh1]
  exact call_of (phiE_nat _ _) hs ok mixed Try.func172 (c := laws_heldYard_code) (by kernel_rfl) (laws_heldYard_lo n) (by kernel_rfl) (by kernel_rfl) (by kernel_rfl) laws_heldYard_de ((laws_heldYard_tie n a0 k1).trans h)
noncomputable def laws_heldStringS_code : Code := match Try.f256.body with | some c => c | none => .skip
def laws_heldStringS_2_sv : List Sv := [.one (.arr 9), .one (.int .i64), .one (.int .i64)]
def laws_heldStringS_2_so : List So := []
def laws_heldStringS_2_emb (c : List ByteArray) (x : Int × Int) : EVs T laws_heldStringS_2_sv × EOs T laws_heldStringS_2_so := ((c, x.1, x.2, ()), ())
def laws_heldStringS_2_prj (y : EVs T laws_heldStringS_2_sv × EOs T laws_heldStringS_2_so) : List ByteArray × (Int × Int) := ((y.1.1), (y.1.2.1, y.1.2.2.1))
def laws_heldStringS_2_b (n : Nat) {R : Type} (K : Ex → Sm.St T → Option R) (c : List ByteArray) (x : Int × Int) (J : (Int × Int) → Option R) : Option R :=
  laws_heldStringS_L2 n (fun (y0 : Int) => K (.exit 0) (stOf (T := T) [1] [] [.one (.int .i64)] [] (y0, ()) ())) (fun (y0 : Int) => K .ret (stOf (T := T) [4] [] [.one (.int .i64)] [] (y0, ()) ())) (fun z0 z1 => J (z0, z1)) c x.1 x.2
def laws_heldStringS_2_sp (n : Nat) : LSpec T := mkSpec T ⟨[], [0, 1, 5], []⟩ laws_heldStringS_2_sv laws_heldStringS_2_so (List ByteArray) (Int × Int) laws_heldStringS_2_emb laws_heldStringS_2_prj (laws_heldStringS_2_b n)
noncomputable def laws_heldStringS_2_c : Code := ((loopCodes laws_heldStringS_code)[0]?).getD .skip
def laws_heldStringS_ann : Ann := fun id => bif Nat.beq id 3000002 then some ⟨[], [1], []⟩ else bif Nat.beq id 2000002 then some ⟨[], [4], []⟩ else none
def laws_heldStringS_Ls (n : Nat) : Nat → Option (LSpec T) := fun id => bif Nat.beq id 2 then some (laws_heldStringS_2_sp n) else none
theorem laws_heldStringS_2_le (n : Nat) : LoopEq (T := T) (Phi n 33) (laws_heldStringS_Ls n) laws_heldStringS_ann n laws_heldStringS_2_c (laws_heldStringS_2_sp n) := ⟨mkSpec_dec (fun y => rfl), fun c x => by kernel_rfl, fun K J c x => by kernel_rfl⟩
theorem laws_heldStringS_tie (n : Nat) (a0 : List ByteArray) (k1 : Int) : evF (T := T) (Phi n 33) (laws_heldStringS_Ls n) laws_heldStringS_ann n Try.f256 (sg 256) [vA T 270 a0, vA T 3 k1] laws_heldStringS_dec = laws_heldStringS n a0 k1 := by kernel_rfl
theorem laws_heldStringS_lo (n : Nat) : LoopsOk (T := T) (Phi n 33) (laws_heldStringS_Ls n) laws_heldStringS_ann n laws_heldStringS_code := loopsOk_all (cs := [laws_heldStringS_2_c]) (by kernel_rfl) ⟨⟨_, by kernel_rfl, laws_heldStringS_2_le n⟩, trivial⟩
theorem laws_heldStringS_ok (n : Nat) : EntOk Try.prog (ents n) (laws_heldStringS_ent n) := by
  intro hs ar y hg h
  replace h : laws_heldStringS_D n ar = some y := h
  unfold laws_heldStringS_D at h
  replace h := ocons_some h
  obtain ⟨a0, r0, rfl, h⟩ := h
  replace h := ocons_some h
  obtain ⟨a1, r1, rfl, h⟩ := h
  replace h := onil_some h
  obtain ⟨rfl, h⟩ := h
  obtain ⟨a0, qh0, h⟩ := obind_some h
  obtain ⟨k1, qh1, h⟩ := obind_some h
  rw [argV_eq ok qh0, argV_eq ok qh1]
  exact call_of (phiE_nat _ _) hs ok mixed Try.func256 (c := laws_heldStringS_code) (by kernel_rfl) (laws_heldStringS_lo n) (by kernel_rfl) (by kernel_rfl) (by kernel_rfl) laws_heldStringS_de ((laws_heldStringS_tie n a0 k1).trans h)
noncomputable def laws_heldBillS_code : Code := match Try.f232.body with | some c => c | none => .skip
def laws_heldBillS_2_sv : List Sv := [.one (.arr 304), .one (.int .i64), .one (.int .i64)]
def laws_heldBillS_2_so : List So := []
def laws_heldBillS_2_emb (c : List SBill) (x : Int × Int) : EVs T laws_heldBillS_2_sv × EOs T laws_heldBillS_2_so := ((c, x.1, x.2, ()), ())
def laws_heldBillS_2_prj (y : EVs T laws_heldBillS_2_sv × EOs T laws_heldBillS_2_so) : List SBill × (Int × Int) := ((y.1.1), (y.1.2.1, y.1.2.2.1))
def laws_heldBillS_2_b (n : Nat) {R : Type} (K : Ex → Sm.St T → Option R) (c : List SBill) (x : Int × Int) (J : (Int × Int) → Option R) : Option R :=
  laws_heldBillS_L2 n (fun (y0 : Int) => K (.exit 0) (stOf (T := T) [1] [] [.one (.int .i64)] [] (y0, ()) ())) (fun (y0 : Int) => K .ret (stOf (T := T) [4] [] [.one (.int .i64)] [] (y0, ()) ())) (fun z0 z1 => J (z0, z1)) c x.1 x.2
def laws_heldBillS_2_sp (n : Nat) : LSpec T := mkSpec T ⟨[], [0, 1, 5], []⟩ laws_heldBillS_2_sv laws_heldBillS_2_so (List SBill) (Int × Int) laws_heldBillS_2_emb laws_heldBillS_2_prj (laws_heldBillS_2_b n)
noncomputable def laws_heldBillS_2_c : Code := ((loopCodes laws_heldBillS_code)[0]?).getD .skip
def laws_heldBillS_ann : Ann := fun id => bif Nat.beq id 3000002 then some ⟨[], [1], []⟩ else bif Nat.beq id 2000002 then some ⟨[], [4], []⟩ else none
def laws_heldBillS_Ls (n : Nat) : Nat → Option (LSpec T) := fun id => bif Nat.beq id 2 then some (laws_heldBillS_2_sp n) else none
theorem laws_heldBillS_2_le (n : Nat) : LoopEq (T := T) (Phi n 34) (laws_heldBillS_Ls n) laws_heldBillS_ann n laws_heldBillS_2_c (laws_heldBillS_2_sp n) := ⟨mkSpec_dec (fun y => rfl), fun c x => by kernel_rfl, fun K J c x => by kernel_rfl⟩
theorem laws_heldBillS_tie (n : Nat) (a0 : List SBill) (k1 : Int) : evF (T := T) (Phi n 34) (laws_heldBillS_Ls n) laws_heldBillS_ann n Try.f232 (sg 232) [vA T 137 a0, vA T 3 k1] laws_heldBillS_dec = laws_heldBillS n a0 k1 := by kernel_rfl
theorem laws_heldBillS_lo (n : Nat) : LoopsOk (T := T) (Phi n 34) (laws_heldBillS_Ls n) laws_heldBillS_ann n laws_heldBillS_code := loopsOk_all (cs := [laws_heldBillS_2_c]) (by kernel_rfl) ⟨⟨_, by kernel_rfl, laws_heldBillS_2_le n⟩, trivial⟩
theorem laws_heldBillS_ok (n : Nat) : EntOk Try.prog (ents n) (laws_heldBillS_ent n) := by
  intro hs ar y hg h
  replace h : laws_heldBillS_D n ar = some y := h
  unfold laws_heldBillS_D at h
  replace h := ocons_some h
  obtain ⟨a0, r0, rfl, h⟩ := h
  replace h := ocons_some h
  obtain ⟨a1, r1, rfl, h⟩ := h
  replace h := onil_some h
  obtain ⟨rfl, h⟩ := h
  obtain ⟨a0, qh0, h⟩ := obind_some h
  obtain ⟨k1, qh1, h⟩ := obind_some h
  rw [argV_eq ok qh0, argV_eq ok qh1]
  exact call_of (phiE_nat _ _) hs ok mixed Try.func232 (c := laws_heldBillS_code) (by kernel_rfl) (laws_heldBillS_lo n) (by kernel_rfl) (by kernel_rfl) (by kernel_rfl) laws_heldBillS_de ((laws_heldBillS_tie n a0 k1).trans h)
noncomputable def laws_heldBook_code : Code := match Try.f173.body with | some c => c | none => .skip
def laws_heldBook_ann : Ann := fun id => none
def laws_heldBook_Ls (n : Nat) : Nat → Option (LSpec T) := fun id => none
theorem laws_heldBook_tie (n : Nat) (a0 : SBook) (k1 : Int) : evF (T := T) (Phi n 35) (laws_heldBook_Ls n) laws_heldBook_ann n Try.f173 (sg 173) [vA T 139 a0, vA T 3 k1] laws_heldBook_dec = laws_heldBook n a0 k1 := by kernel_rfl
theorem laws_heldBook_lo (n : Nat) : LoopsOk (T := T) (Phi n 35) (laws_heldBook_Ls n) laws_heldBook_ann n laws_heldBook_code := loopsOk_all (cs := []) (by kernel_rfl) trivial
theorem laws_heldBook_ok (n : Nat) : EntOk Try.prog (ents n) (laws_heldBook_ent n) := by
  intro hs ar y hg h
  replace h : laws_heldBook_D n ar = some y := h
  unfold laws_heldBook_D at h
  replace h := ocons_some h
  obtain ⟨a0, r0, rfl, h⟩ := h
  replace h := ocons_some h
  obtain ⟨a1, r1, rfl, h⟩ := h
  replace h := onil_some h
  obtain ⟨rfl, h⟩ := h
  obtain ⟨a0, qh0, h⟩ := obind_some h
  obtain ⟨k1, qh1, h⟩ := obind_some h
  rw [argV_eq ok qh0, argV_eq ok qh1]
  exact call_of (phiE_nat _ _) hs ok mixed Try.func173 (c := laws_heldBook_code) (by kernel_rfl) (laws_heldBook_lo n) (by kernel_rfl) (by kernel_rfl) (by kernel_rfl) laws_heldBook_de ((laws_heldBook_tie n a0 k1).trans h)
noncomputable def laws_heldLotS_code : Code := match Try.f233.body with | some c => c | none => .skip
def laws_heldLotS_2_sv : List Sv := [.one (.arr 307), .one (.int .i64), .one (.int .i64)]
def laws_heldLotS_2_so : List So := []
def laws_heldLotS_2_emb (c : List SLot) (x : Int × Int) : EVs T laws_heldLotS_2_sv × EOs T laws_heldLotS_2_so := ((c, x.1, x.2, ()), ())
def laws_heldLotS_2_prj (y : EVs T laws_heldLotS_2_sv × EOs T laws_heldLotS_2_so) : List SLot × (Int × Int) := ((y.1.1), (y.1.2.1, y.1.2.2.1))
def laws_heldLotS_2_b (n : Nat) {R : Type} (K : Ex → Sm.St T → Option R) (c : List SLot) (x : Int × Int) (J : (Int × Int) → Option R) : Option R :=
  laws_heldLotS_L2 n (fun (y0 : Int) => K (.exit 0) (stOf (T := T) [1] [] [.one (.int .i64)] [] (y0, ()) ())) (fun (y0 : Int) => K .ret (stOf (T := T) [4] [] [.one (.int .i64)] [] (y0, ()) ())) (fun z0 z1 => J (z0, z1)) c x.1 x.2
def laws_heldLotS_2_sp (n : Nat) : LSpec T := mkSpec T ⟨[], [0, 1, 5], []⟩ laws_heldLotS_2_sv laws_heldLotS_2_so (List SLot) (Int × Int) laws_heldLotS_2_emb laws_heldLotS_2_prj (laws_heldLotS_2_b n)
noncomputable def laws_heldLotS_2_c : Code := ((loopCodes laws_heldLotS_code)[0]?).getD .skip
def laws_heldLotS_ann : Ann := fun id => bif Nat.beq id 3000002 then some ⟨[], [1], []⟩ else bif Nat.beq id 2000002 then some ⟨[], [4], []⟩ else none
def laws_heldLotS_Ls (n : Nat) : Nat → Option (LSpec T) := fun id => bif Nat.beq id 2 then some (laws_heldLotS_2_sp n) else none
theorem laws_heldLotS_2_le (n : Nat) : LoopEq (T := T) (Phi n 36) (laws_heldLotS_Ls n) laws_heldLotS_ann n laws_heldLotS_2_c (laws_heldLotS_2_sp n) := ⟨mkSpec_dec (fun y => rfl), fun c x => by kernel_rfl, fun K J c x => by kernel_rfl⟩
theorem laws_heldLotS_tie (n : Nat) (a0 : List SLot) (k1 : Int) : evF (T := T) (Phi n 36) (laws_heldLotS_Ls n) laws_heldLotS_ann n Try.f233 (sg 233) [vA T 140 a0, vA T 3 k1] laws_heldLotS_dec = laws_heldLotS n a0 k1 := by kernel_rfl
theorem laws_heldLotS_lo (n : Nat) : LoopsOk (T := T) (Phi n 36) (laws_heldLotS_Ls n) laws_heldLotS_ann n laws_heldLotS_code := loopsOk_all (cs := [laws_heldLotS_2_c]) (by kernel_rfl) ⟨⟨_, by kernel_rfl, laws_heldLotS_2_le n⟩, trivial⟩
theorem laws_heldLotS_ok (n : Nat) : EntOk Try.prog (ents n) (laws_heldLotS_ent n) := by
  intro hs ar y hg h
  replace h : laws_heldLotS_D n ar = some y := h
  unfold laws_heldLotS_D at h
  replace h := ocons_some h
  obtain ⟨a0, r0, rfl, h⟩ := h
  replace h := ocons_some h
  obtain ⟨a1, r1, rfl, h⟩ := h
  replace h := onil_some h
  obtain ⟨rfl, h⟩ := h
  obtain ⟨a0, qh0, h⟩ := obind_some h
  obtain ⟨k1, qh1, h⟩ := obind_some h
  rw [argV_eq ok qh0, argV_eq ok qh1]
  exact call_of (phiE_nat _ _) hs ok mixed Try.func233 (c := laws_heldLotS_code) (by kernel_rfl) (laws_heldLotS_lo n) (by kernel_rfl) (by kernel_rfl) (by kernel_rfl) laws_heldLotS_de ((laws_heldLotS_tie n a0 k1).trans h)
noncomputable def laws_heldTraderS_code : Code := match Try.f234.body with | some c => c | none => .skip
def laws_heldTraderS_2_sv : List Sv := [.one (.arr 229), .one (.int .i64), .one (.int .i64)]
def laws_heldTraderS_2_so : List So := []
def laws_heldTraderS_2_emb (c : List STrader) (x : Int × Int) : EVs T laws_heldTraderS_2_sv × EOs T laws_heldTraderS_2_so := ((c, x.1, x.2, ()), ())
def laws_heldTraderS_2_prj (y : EVs T laws_heldTraderS_2_sv × EOs T laws_heldTraderS_2_so) : List STrader × (Int × Int) := ((y.1.1), (y.1.2.1, y.1.2.2.1))
def laws_heldTraderS_2_b (n : Nat) {R : Type} (K : Ex → Sm.St T → Option R) (c : List STrader) (x : Int × Int) (J : (Int × Int) → Option R) : Option R :=
  laws_heldTraderS_L2 n (fun (y0 : Int) => K (.exit 0) (stOf (T := T) [1] [] [.one (.int .i64)] [] (y0, ()) ())) (fun (y0 : Int) => K .ret (stOf (T := T) [4] [] [.one (.int .i64)] [] (y0, ()) ())) (fun z0 z1 => J (z0, z1)) c x.1 x.2
def laws_heldTraderS_2_sp (n : Nat) : LSpec T := mkSpec T ⟨[], [0, 1, 5], []⟩ laws_heldTraderS_2_sv laws_heldTraderS_2_so (List STrader) (Int × Int) laws_heldTraderS_2_emb laws_heldTraderS_2_prj (laws_heldTraderS_2_b n)
noncomputable def laws_heldTraderS_2_c : Code := ((loopCodes laws_heldTraderS_code)[0]?).getD .skip
def laws_heldTraderS_ann : Ann := fun id => bif Nat.beq id 3000002 then some ⟨[], [1], []⟩ else bif Nat.beq id 2000002 then some ⟨[], [4], []⟩ else none
def laws_heldTraderS_Ls (n : Nat) : Nat → Option (LSpec T) := fun id => bif Nat.beq id 2 then some (laws_heldTraderS_2_sp n) else none
theorem laws_heldTraderS_2_le (n : Nat) : LoopEq (T := T) (Phi n 37) (laws_heldTraderS_Ls n) laws_heldTraderS_ann n laws_heldTraderS_2_c (laws_heldTraderS_2_sp n) := ⟨mkSpec_dec (fun y => rfl), fun c x => by kernel_rfl, fun K J c x => by kernel_rfl⟩
theorem laws_heldTraderS_tie (n : Nat) (a0 : List STrader) (k1 : Int) : evF (T := T) (Phi n 37) (laws_heldTraderS_Ls n) laws_heldTraderS_ann n Try.f234 (sg 234) [vA T 141 a0, vA T 3 k1] laws_heldTraderS_dec = laws_heldTraderS n a0 k1 := by kernel_rfl
theorem laws_heldTraderS_lo (n : Nat) : LoopsOk (T := T) (Phi n 37) (laws_heldTraderS_Ls n) laws_heldTraderS_ann n laws_heldTraderS_code := loopsOk_all (cs := [laws_heldTraderS_2_c]) (by kernel_rfl) ⟨⟨_, by kernel_rfl, laws_heldTraderS_2_le n⟩, trivial⟩
theorem laws_heldTraderS_ok (n : Nat) : EntOk Try.prog (ents n) (laws_heldTraderS_ent n) := by
  intro hs ar y hg h
  replace h : laws_heldTraderS_D n ar = some y := h
  unfold laws_heldTraderS_D at h
  replace h := ocons_some h
  obtain ⟨a0, r0, rfl, h⟩ := h
  replace h := ocons_some h
  obtain ⟨a1, r1, rfl, h⟩ := h
  replace h := onil_some h
  obtain ⟨rfl, h⟩ := h
  obtain ⟨a0, qh0, h⟩ := obind_some h
  obtain ⟨k1, qh1, h⟩ := obind_some h
  rw [argV_eq ok qh0, argV_eq ok qh1]
  exact call_of (phiE_nat _ _) hs ok mixed Try.func234 (c := laws_heldTraderS_code) (by kernel_rfl) (laws_heldTraderS_lo n) (by kernel_rfl) (by kernel_rfl) (by kernel_rfl) laws_heldTraderS_de ((laws_heldTraderS_tie n a0 k1).trans h)
noncomputable def laws_heldHouse_code : Code := match Try.f174.body with | some c => c | none => .skip
def laws_heldHouse_ann : Ann := fun id => none
def laws_heldHouse_Ls (n : Nat) : Nat → Option (LSpec T) := fun id => none
theorem laws_heldHouse_tie (n : Nat) (a0 : SHouse) (k1 : Int) : evF (T := T) (Phi n 38) (laws_heldHouse_Ls n) laws_heldHouse_ann n Try.f174 (sg 174) [vA T 143 a0, vA T 3 k1] laws_heldHouse_dec = laws_heldHouse n a0 k1 := by kernel_rfl
theorem laws_heldHouse_lo (n : Nat) : LoopsOk (T := T) (Phi n 38) (laws_heldHouse_Ls n) laws_heldHouse_ann n laws_heldHouse_code := loopsOk_all (cs := []) (by kernel_rfl) trivial
theorem laws_heldHouse_ok (n : Nat) : EntOk Try.prog (ents n) (laws_heldHouse_ent n) := by
  intro hs ar y hg h
  replace h : laws_heldHouse_D n ar = some y := h
  unfold laws_heldHouse_D at h
  replace h := ocons_some h
  obtain ⟨a0, r0, rfl, h⟩ := h
  replace h := ocons_some h
  obtain ⟨a1, r1, rfl, h⟩ := h
  replace h := onil_some h
  obtain ⟨rfl, h⟩ := h
  obtain ⟨a0, qh0, h⟩ := obind_some h
  obtain ⟨k1, qh1, h⟩ := obind_some h
  rw [argV_eq ok qh0, argV_eq ok qh1]
  exact call_of (phiE_nat _ _) hs ok mixed Try.func174 (c := laws_heldHouse_code) (by kernel_rfl) (laws_heldHouse_lo n) (by kernel_rfl) (by kernel_rfl) (by kernel_rfl) laws_heldHouse_de ((laws_heldHouse_tie n a0 k1).trans h)
noncomputable def laws_heldPort_code : Code := match Try.f86.body with | some c => c | none => .skip
def laws_heldPort_ann : Ann := fun id => none
def laws_heldPort_Ls (n : Nat) : Nat → Option (LSpec T) := fun id => none
theorem laws_heldPort_tie (n : Nat) (a0 : SPort) (k1 : Int) : evF (T := T) (Phi n 39) (laws_heldPort_Ls n) laws_heldPort_ann n Try.f86 (sg 86) [vA T 145 a0, vA T 3 k1] laws_heldPort_dec = laws_heldPort n a0 k1 := by kernel_rfl
theorem laws_heldPort_lo (n : Nat) : LoopsOk (T := T) (Phi n 39) (laws_heldPort_Ls n) laws_heldPort_ann n laws_heldPort_code := loopsOk_all (cs := []) (by kernel_rfl) trivial
theorem laws_heldPort_ok (n : Nat) : EntOk Try.prog (ents n) (laws_heldPort_ent n) := by
  intro hs ar y hg h
  replace h : laws_heldPort_D n ar = some y := h
  unfold laws_heldPort_D at h
  replace h := ocons_some h
  obtain ⟨a0, r0, rfl, h⟩ := h
  replace h := ocons_some h
  obtain ⟨a1, r1, rfl, h⟩ := h
  replace h := onil_some h
  obtain ⟨rfl, h⟩ := h
  obtain ⟨a0, qh0, h⟩ := obind_some h
  obtain ⟨k1, qh1, h⟩ := obind_some h
  rw [argV_eq ok qh0, argV_eq ok qh1]
  exact call_of (phiE_nat _ _) hs ok mixed Try.func86 (c := laws_heldPort_code) (by kernel_rfl) (laws_heldPort_lo n) (by kernel_rfl) (by kernel_rfl) (by kernel_rfl) laws_heldPort_de ((laws_heldPort_tie n a0 k1).trans h)
noncomputable def laws_FnExactNewPort_code : Code := match Try.f14.body with | some c => c | none => .skip
def laws_FnExactNewPort_ann : Ann := fun id => none
def laws_FnExactNewPort_Ls (n : Nat) : Nat → Option (LSpec T) := fun id => none
theorem laws_FnExactNewPort_tie (n : Nat)  : evF (T := T) (Phi n 40) (laws_FnExactNewPort_Ls n) laws_FnExactNewPort_ann n Try.f14 (sg 14) [] laws_FnExactNewPort_dec = laws_FnExactNewPort n := by kernel_rfl
theorem laws_FnExactNewPort_lo (n : Nat) : LoopsOk (T := T) (Phi n 40) (laws_FnExactNewPort_Ls n) laws_FnExactNewPort_ann n laws_FnExactNewPort_code := loopsOk_all (cs := []) (by kernel_rfl) trivial
theorem laws_FnExactNewPort_ok (n : Nat) : EntOk Try.prog (ents n) (laws_FnExactNewPort_ent n) := by
  intro hs ar y hg h
  replace h : laws_FnExactNewPort_D n ar = some y := h
  unfold laws_FnExactNewPort_D at h
  replace h := onil_some h
  obtain ⟨rfl, h⟩ := h
  exact call_of (phiE_nat _ _) hs ok mixed Try.func14 (c := laws_FnExactNewPort_code) (by kernel_rfl) (laws_FnExactNewPort_lo n) (by kernel_rfl) (by kernel_rfl) (by kernel_rfl) laws_FnExactNewPort_de ((laws_FnExactNewPort_tie n).trans h)
theorem entsOk (n : Nat) : EntsOk Try.prog (ents n) (ents n) := ⟨spec_NewPort_ok n, impl_NewPort_ok n, laws_eqCall_ok n, laws_eqCallS_ok n, laws_eqIntS_ok n, laws_eqIntSS_ok n, laws_eqYard_ok n, laws_eqStringS_ok n, laws_eqBill_ok n, laws_eqBillS_ok n, laws_eqBook_ok n, laws_eqLot_ok n, laws_eqLotS_ok n, laws_eqTrader_ok n, laws_eqTraderS_ok n, laws_eqHouse_ok n, laws_eqPort_ok n, laws_markCallS_ok n, laws_markIntS_ok n, laws_markIntSS_ok n, laws_markYard_ok n, laws_markText_ok n, laws_markStringS_ok n, laws_markBillS_ok n, laws_markBook_ok n, laws_markLotS_ok n, laws_markTraderS_ok n, laws_markHouse_ok n, laws_markPort_ok n, laws_heldCallS_ok n, laws_heldIntS_ok n, laws_heldIntSS_ok n, laws_heldYard_ok n, laws_heldStringS_ok n, laws_heldBillS_ok n, laws_heldBook_ok n, laws_heldLotS_ok n, laws_heldTraderS_ok n, laws_heldHouse_ok n, laws_heldPort_ok n, laws_FnExactNewPort_ok n, trivial⟩
theorem sem (n i : Nat) : SemOk (Phi n i) (CallOk Try.prog T) := phiE_ok (entsOk n) i
end Go.Sm.B14
