import Derived.Test.YtakllmgiobpmgaaGreatZ3Tb
import Derived.Test.YtakllmgiobpmgaaGreatEngE
import Derived.Test.YtakllmgiobpmgaaGreatLay
import Derived.KernelRfl
/- Each function's code computes what the plain function computes. -/
set_option linter.unusedSimpArgs false
set_option linter.deprecated false
set_option linter.unusedSectionVars false
set_option linter.unusedVariables false
set_option maxRecDepth 100000
open Go Go.Proofs
noncomputable section
namespace Go.Sm.Z3
/-- By recursors, and of a greater height than all of the functions: the kernel takes these apart first. -/
def obind {α β : Type} (o : Option α) (f : α → Option β) : Option β := let _ := @laws_FnExactRunBills; Option.rec (motive := fun _ => Option β) none (fun a => f a) o
theorem obind_some {α β : Type} {o : Option α} {f : α → Option β} {y : β} (h : obind o f = some y) : ∃ a, o = some a ∧ f a = some y := by
  cases o with
  | none => cases h
  | some a => exact ⟨a, rfl, h⟩
def ocons {β : Type} (l : List (A T)) (f : A T → List (A T) → Option β) : Option β := let _ := @laws_FnExactRunBills; List.rec (motive := fun _ => Option β) none (fun a r _ => f a r) l
theorem ocons_some {β : Type} {l : List (A T)} {f : A T → List (A T) → Option β} {y : β} (h : ocons l f = some y) : ∃ a r, l = a :: r ∧ f a r = some y := by
  cases l with
  | nil => cases h
  | cons a r => exact ⟨a, r, rfl, h⟩
def onil {β : Type} (l : List (A T)) (x : Option β) : Option β := let _ := @laws_FnExactRunBills; List.rec (motive := fun _ => Option β) x (fun _ _ _ => none) l
theorem onil_some {β : Type} {l : List (A T)} {x : Option β} {y : β} (h : onil l x = some y) : l = [] ∧ x = some y := by
  cases l with
  | nil => exact ⟨rfl, h⟩
  | cons a r => cases h
def laws_szStringS_dec (res : Res T) : Option Int := match res.rets, res.outs with
  | [a0], [] => (retV (T := T) 3 a0).bind fun r0 => some (r0)
  | _, _ => none
def laws_szStringS_enc (y : Int) : Res T := ⟨[vR T 3 y], []⟩
theorem laws_szStringS_de (res : Res T) (y : Int) (h : laws_szStringS_dec res = some y) : res = laws_szStringS_enc y := by
  obtain ⟨rets, outs⟩ := res
  unfold laws_szStringS_dec at h
  dsimp only at h
  split at h
  · obtain ⟨r0, h0, h⟩ := Option.bind_eq_some_iff.1 h
    cases h
    rw [retV_eq ok h0]
    rfl
  · cases h
def laws_szBill_dec (res : Res T) : Option Int := match res.rets, res.outs with
  | [a0], [] => (retV (T := T) 3 a0).bind fun r0 => some (r0)
  | _, _ => none
def laws_szBill_enc (y : Int) : Res T := ⟨[vR T 3 y], []⟩
theorem laws_szBill_de (res : Res T) (y : Int) (h : laws_szBill_dec res = some y) : res = laws_szBill_enc y := by
  obtain ⟨rets, outs⟩ := res
  unfold laws_szBill_dec at h
  dsimp only at h
  split at h
  · obtain ⟨r0, h0, h⟩ := Option.bind_eq_some_iff.1 h
    cases h
    rw [retV_eq ok h0]
    rfl
  · cases h
def laws_szBillS_dec (res : Res T) : Option Int := match res.rets, res.outs with
  | [a0], [] => (retV (T := T) 3 a0).bind fun r0 => some (r0)
  | _, _ => none
def laws_szBillS_enc (y : Int) : Res T := ⟨[vR T 3 y], []⟩
theorem laws_szBillS_de (res : Res T) (y : Int) (h : laws_szBillS_dec res = some y) : res = laws_szBillS_enc y := by
  obtain ⟨rets, outs⟩ := res
  unfold laws_szBillS_dec at h
  dsimp only at h
  split at h
  · obtain ⟨r0, h0, h⟩ := Option.bind_eq_some_iff.1 h
    cases h
    rw [retV_eq ok h0]
    rfl
  · cases h
def laws_szIntS_dec (res : Res T) : Option Int := match res.rets, res.outs with
  | [a0], [] => (retV (T := T) 3 a0).bind fun r0 => some (r0)
  | _, _ => none
def laws_szIntS_enc (y : Int) : Res T := ⟨[vR T 3 y], []⟩
theorem laws_szIntS_de (res : Res T) (y : Int) (h : laws_szIntS_dec res = some y) : res = laws_szIntS_enc y := by
  obtain ⟨rets, outs⟩ := res
  unfold laws_szIntS_dec at h
  dsimp only at h
  split at h
  · obtain ⟨r0, h0, h⟩ := Option.bind_eq_some_iff.1 h
    cases h
    rw [retV_eq ok h0]
    rfl
  · cases h
def laws_szBook_dec (res : Res T) : Option Int := match res.rets, res.outs with
  | [a0], [] => (retV (T := T) 3 a0).bind fun r0 => some (r0)
  | _, _ => none
def laws_szBook_enc (y : Int) : Res T := ⟨[vR T 3 y], []⟩
theorem laws_szBook_de (res : Res T) (y : Int) (h : laws_szBook_dec res = some y) : res = laws_szBook_enc y := by
  obtain ⟨rets, outs⟩ := res
  unfold laws_szBook_dec at h
  dsimp only at h
  split at h
  · obtain ⟨r0, h0, h⟩ := Option.bind_eq_some_iff.1 h
    cases h
    rw [retV_eq ok h0]
    rfl
  · cases h
def laws_szBillOp_dec (res : Res T) : Option Int := match res.rets, res.outs with
  | [a0], [] => (retV (T := T) 3 a0).bind fun r0 => some (r0)
  | _, _ => none
def laws_szBillOp_enc (y : Int) : Res T := ⟨[vR T 3 y], []⟩
theorem laws_szBillOp_de (res : Res T) (y : Int) (h : laws_szBillOp_dec res = some y) : res = laws_szBillOp_enc y := by
  obtain ⟨rets, outs⟩ := res
  unfold laws_szBillOp_dec at h
  dsimp only at h
  split at h
  · obtain ⟨r0, h0, h⟩ := Option.bind_eq_some_iff.1 h
    cases h
    rw [retV_eq ok h0]
    rfl
  · cases h
def laws_szBillOpS_dec (res : Res T) : Option Int := match res.rets, res.outs with
  | [a0], [] => (retV (T := T) 3 a0).bind fun r0 => some (r0)
  | _, _ => none
def laws_szBillOpS_enc (y : Int) : Res T := ⟨[vR T 3 y], []⟩
theorem laws_szBillOpS_de (res : Res T) (y : Int) (h : laws_szBillOpS_dec res = some y) : res = laws_szBillOpS_enc y := by
  obtain ⟨rets, outs⟩ := res
  unfold laws_szBillOpS_dec at h
  dsimp only at h
  split at h
  · obtain ⟨r0, h0, h⟩ := Option.bind_eq_some_iff.1 h
    cases h
    rw [retV_eq ok h0]
    rfl
  · cases h
def laws_toStringS_dec (res : Res T) : Option (List ByteArray) := match res.rets, res.outs with
  | [a0], [] => (retV (T := T) 61 a0).bind fun r0 => some (r0)
  | _, _ => none
def laws_toStringS_enc (y : List ByteArray) : Res T := ⟨[vR T 61 y], []⟩
theorem laws_toStringS_de (res : Res T) (y : List ByteArray) (h : laws_toStringS_dec res = some y) : res = laws_toStringS_enc y := by
  obtain ⟨rets, outs⟩ := res
  unfold laws_toStringS_dec at h
  dsimp only at h
  split at h
  · obtain ⟨r0, h0, h⟩ := Option.bind_eq_some_iff.1 h
    cases h
    rw [retV_eq ok h0]
    rfl
  · cases h
def laws_toBill_dec (res : Res T) : Option SBill := match res.rets, res.outs with
  | [a0], [] => (retV (T := T) 64 a0).bind fun r0 => some (r0)
  | _, _ => none
def laws_toBill_enc (y : SBill) : Res T := ⟨[vR T 64 y], []⟩
theorem laws_toBill_de (res : Res T) (y : SBill) (h : laws_toBill_dec res = some y) : res = laws_toBill_enc y := by
  obtain ⟨rets, outs⟩ := res
  unfold laws_toBill_dec at h
  dsimp only at h
  split at h
  · obtain ⟨r0, h0, h⟩ := Option.bind_eq_some_iff.1 h
    cases h
    rw [retV_eq ok h0]
    rfl
  · cases h
def laws_toBillS_dec (res : Res T) : Option (List SBill) := match res.rets, res.outs with
  | [a0], [] => (retV (T := T) 29 a0).bind fun r0 => some (r0)
  | _, _ => none
def laws_toBillS_enc (y : List SBill) : Res T := ⟨[vR T 29 y], []⟩
theorem laws_toBillS_de (res : Res T) (y : List SBill) (h : laws_toBillS_dec res = some y) : res = laws_toBillS_enc y := by
  obtain ⟨rets, outs⟩ := res
  unfold laws_toBillS_dec at h
  dsimp only at h
  split at h
  · obtain ⟨r0, h0, h⟩ := Option.bind_eq_some_iff.1 h
    cases h
    rw [retV_eq ok h0]
    rfl
  · cases h
def laws_toIntS_dec (res : Res T) : Option (List Int) := match res.rets, res.outs with
  | [a0], [] => (retV (T := T) 23 a0).bind fun r0 => some (r0)
  | _, _ => none
def laws_toIntS_enc (y : List Int) : Res T := ⟨[vR T 23 y], []⟩
theorem laws_toIntS_de (res : Res T) (y : List Int) (h : laws_toIntS_dec res = some y) : res = laws_toIntS_enc y := by
  obtain ⟨rets, outs⟩ := res
  unfold laws_toIntS_dec at h
  dsimp only at h
  split at h
  · obtain ⟨r0, h0, h⟩ := Option.bind_eq_some_iff.1 h
    cases h
    rw [retV_eq ok h0]
    rfl
  · cases h
def laws_toBook_dec (res : Res T) : Option SBook := match res.rets, res.outs with
  | [a0], [] => (retV (T := T) 31 a0).bind fun r0 => some (r0)
  | _, _ => none
def laws_toBook_enc (y : SBook) : Res T := ⟨[vR T 31 y], []⟩
theorem laws_toBook_de (res : Res T) (y : SBook) (h : laws_toBook_dec res = some y) : res = laws_toBook_enc y := by
  obtain ⟨rets, outs⟩ := res
  unfold laws_toBook_dec at h
  dsimp only at h
  split at h
  · obtain ⟨r0, h0, h⟩ := Option.bind_eq_some_iff.1 h
    cases h
    rw [retV_eq ok h0]
    rfl
  · cases h
def laws_toBillOp_dec (res : Res T) : Option SBillOp := match res.rets, res.outs with
  | [a0], [] => (retV (T := T) 51 a0).bind fun r0 => some (r0)
  | _, _ => none
def laws_toBillOp_enc (y : SBillOp) : Res T := ⟨[vR T 51 y], []⟩
theorem laws_toBillOp_de (res : Res T) (y : SBillOp) (h : laws_toBillOp_dec res = some y) : res = laws_toBillOp_enc y := by
  obtain ⟨rets, outs⟩ := res
  unfold laws_toBillOp_dec at h
  dsimp only at h
  split at h
  · obtain ⟨r0, h0, h⟩ := Option.bind_eq_some_iff.1 h
    cases h
    rw [retV_eq ok h0]
    rfl
  · cases h
def laws_toBillOpS_dec (res : Res T) : Option (List SBillOp) := match res.rets, res.outs with
  | [a0], [] => (retV (T := T) 35 a0).bind fun r0 => some (r0)
  | _, _ => none
def laws_toBillOpS_enc (y : List SBillOp) : Res T := ⟨[vR T 35 y], []⟩
theorem laws_toBillOpS_de (res : Res T) (y : List SBillOp) (h : laws_toBillOpS_dec res = some y) : res = laws_toBillOpS_enc y := by
  obtain ⟨rets, outs⟩ := res
  unfold laws_toBillOpS_dec at h
  dsimp only at h
  split at h
  · obtain ⟨r0, h0, h⟩ := Option.bind_eq_some_iff.1 h
    cases h
    rw [retV_eq ok h0]
    rfl
  · cases h
def spec_l14Copy_dec (res : Res T) : Option SBook := match res.rets, res.outs with
  | [a0], [] => (retV (T := T) 31 a0).bind fun r0 => some (r0)
  | _, _ => none
def spec_l14Copy_enc (y : SBook) : Res T := ⟨[vR T 31 y], []⟩
theorem spec_l14Copy_de (res : Res T) (y : SBook) (h : spec_l14Copy_dec res = some y) : res = spec_l14Copy_enc y := by
  obtain ⟨rets, outs⟩ := res
  unfold spec_l14Copy_dec at h
  dsimp only at h
  split at h
  · obtain ⟨r0, h0, h⟩ := Option.bind_eq_some_iff.1 h
    cases h
    rw [retV_eq ok h0]
    rfl
  · cases h
def spec_l1In_dec (res : Res T) : Option Bool := match res.rets, res.outs with
  | [a0], [] => (retV (T := T) 4 a0).bind fun r0 => some (r0)
  | _, _ => none
def spec_l1In_enc (y : Bool) : Res T := ⟨[vR T 4 y], []⟩
theorem spec_l1In_de (res : Res T) (y : Bool) (h : spec_l1In_dec res = some y) : res = spec_l1In_enc y := by
  obtain ⟨rets, outs⟩ := res
  unfold spec_l1In_dec at h
  dsimp only at h
  split at h
  · obtain ⟨r0, h0, h⟩ := Option.bind_eq_some_iff.1 h
    cases h
    rw [retV_eq ok h0]
    rfl
  · cases h
def spec_l1Name_dec (res : Res T) : Option Bool := match res.rets, res.outs with
  | [a0], [] => (retV (T := T) 4 a0).bind fun r0 => some (r0)
  | _, _ => none
def spec_l1Name_enc (y : Bool) : Res T := ⟨[vR T 4 y], []⟩
theorem spec_l1Name_de (res : Res T) (y : Bool) (h : spec_l1Name_dec res = some y) : res = spec_l1Name_enc y := by
  obtain ⟨rets, outs⟩ := res
  unfold spec_l1Name_dec at h
  dsimp only at h
  split at h
  · obtain ⟨r0, h0, h⟩ := Option.bind_eq_some_iff.1 h
    cases h
    rw [retV_eq ok h0]
    rfl
  · cases h
def spec_l14Find_dec (res : Res T) : Option Int := match res.rets, res.outs with
  | [a0], [] => (retV (T := T) 3 a0).bind fun r0 => some (r0)
  | _, _ => none
def spec_l14Find_enc (y : Int) : Res T := ⟨[vR T 3 y], []⟩
theorem spec_l14Find_de (res : Res T) (y : Int) (h : spec_l14Find_dec res = some y) : res = spec_l14Find_enc y := by
  obtain ⟨rets, outs⟩ := res
  unfold spec_l14Find_dec at h
  dsimp only at h
  split at h
  · obtain ⟨r0, h0, h⟩ := Option.bind_eq_some_iff.1 h
    cases h
    rw [retV_eq ok h0]
    rfl
  · cases h
def spec_BookOk_dec (res : Res T) : Option Bool := match res.rets, res.outs with
  | [a0], [] => (retV (T := T) 4 a0).bind fun r0 => some (r0)
  | _, _ => none
def spec_BookOk_enc (y : Bool) : Res T := ⟨[vR T 4 y], []⟩
theorem spec_BookOk_de (res : Res T) (y : Bool) (h : spec_BookOk_dec res = some y) : res = spec_BookOk_enc y := by
  obtain ⟨rets, outs⟩ := res
  unfold spec_BookOk_dec at h
  dsimp only at h
  split at h
  · obtain ⟨r0, h0, h⟩ := Option.bind_eq_some_iff.1 h
    cases h
    rw [retV_eq ok h0]
    rfl
  · cases h
def spec_l14Op_dec (res : Res T) : Option Bool := match res.rets, res.outs with
  | [a0], [] => (retV (T := T) 4 a0).bind fun r0 => some (r0)
  | _, _ => none
def spec_l14Op_enc (y : Bool) : Res T := ⟨[vR T 4 y], []⟩
theorem spec_l14Op_de (res : Res T) (y : Bool) (h : spec_l14Op_dec res = some y) : res = spec_l14Op_enc y := by
  obtain ⟨rets, outs⟩ := res
  unfold spec_l14Op_dec at h
  dsimp only at h
  split at h
  · obtain ⟨r0, h0, h⟩ := Option.bind_eq_some_iff.1 h
    cases h
    rw [retV_eq ok h0]
    rfl
  · cases h
def spec_l14Made_dec (res : Res T) : Option (List ByteArray) := match res.rets, res.outs with
  | [a0], [] => (retV (T := T) 61 a0).bind fun r0 => some (r0)
  | _, _ => none
def spec_l14Made_enc (y : List ByteArray) : Res T := ⟨[vR T 61 y], []⟩
theorem spec_l14Made_de (res : Res T) (y : List ByteArray) (h : spec_l14Made_dec res = some y) : res = spec_l14Made_enc y := by
  obtain ⟨rets, outs⟩ := res
  unfold spec_l14Made_dec at h
  dsimp only at h
  split at h
  · obtain ⟨r0, h0, h⟩ := Option.bind_eq_some_iff.1 h
    cases h
    rw [retV_eq ok h0]
    rfl
  · cases h
def spec_l9Has_dec (res : Res T) : Option Bool := match res.rets, res.outs with
  | [a0], [] => (retV (T := T) 4 a0).bind fun r0 => some (r0)
  | _, _ => none
def spec_l9Has_enc (y : Bool) : Res T := ⟨[vR T 4 y], []⟩
theorem spec_l9Has_de (res : Res T) (y : Bool) (h : spec_l9Has_dec res = some y) : res = spec_l9Has_enc y := by
  obtain ⟨rets, outs⟩ := res
  unfold spec_l9Has_dec at h
  dsimp only at h
  split at h
  · obtain ⟨r0, h0, h⟩ := Option.bind_eq_some_iff.1 h
    cases h
    rw [retV_eq ok h0]
    rfl
  · cases h
def spec_l14Holds_dec (res : Res T) : Option Int := match res.rets, res.outs with
  | [a0], [] => (retV (T := T) 3 a0).bind fun r0 => some (r0)
  | _, _ => none
def spec_l14Holds_enc (y : Int) : Res T := ⟨[vR T 3 y], []⟩
theorem spec_l14Holds_de (res : Res T) (y : Int) (h : spec_l14Holds_dec res = some y) : res = spec_l14Holds_enc y := by
  obtain ⟨rets, outs⟩ := res
  unfold spec_l14Holds_dec at h
  dsimp only at h
  split at h
  · obtain ⟨r0, h0, h⟩ := Option.bind_eq_some_iff.1 h
    cases h
    rw [retV_eq ok h0]
    rfl
  · cases h
def spec_l14Do_dec (res : Res T) : Option (SBill × Bool) := match res.rets, res.outs with
  | [a0, a1], [] => (retV (T := T) 64 a0).bind fun r0 => (retV (T := T) 4 a1).bind fun r1 => some (r0, r1)
  | _, _ => none
def spec_l14Do_enc (y : SBill × Bool) : Res T := ⟨[vR T 64 y.1, vR T 4 y.2], []⟩
theorem spec_l14Do_de (res : Res T) (y : SBill × Bool) (h : spec_l14Do_dec res = some y) : res = spec_l14Do_enc y := by
  obtain ⟨rets, outs⟩ := res
  unfold spec_l14Do_dec at h
  dsimp only at h
  split at h
  · obtain ⟨r0, h0, h⟩ := Option.bind_eq_some_iff.1 h
    obtain ⟨r1, h1, h⟩ := Option.bind_eq_some_iff.1 h
    cases h
    rw [retV_eq ok h0, retV_eq ok h1]
    rfl
  · cases h
def spec_DoBill_dec (res : Res T) : Option (SBook × Int) := match res.rets, res.outs with
  | [a0, a1], [] => (retV (T := T) 31 a0).bind fun r0 => (retV (T := T) 3 a1).bind fun r1 => some (r0, r1)
  | _, _ => none
def spec_DoBill_enc (y : SBook × Int) : Res T := ⟨[vR T 31 y.1, vR T 3 y.2], []⟩
theorem spec_DoBill_de (res : Res T) (y : SBook × Int) (h : spec_DoBill_dec res = some y) : res = spec_DoBill_enc y := by
  obtain ⟨rets, outs⟩ := res
  unfold spec_DoBill_dec at h
  dsimp only at h
  split at h
  · obtain ⟨r0, h0, h⟩ := Option.bind_eq_some_iff.1 h
    obtain ⟨r1, h1, h⟩ := Option.bind_eq_some_iff.1 h
    cases h
    rw [retV_eq ok h0, retV_eq ok h1]
    rfl
  · cases h
def spec_RunBills_dec (res : Res T) : Option (SBook × List Int) := match res.rets, res.outs with
  | [a0, a1], [] => (retV (T := T) 31 a0).bind fun r0 => (retV (T := T) 23 a1).bind fun r1 => some (r0, r1)
  | _, _ => none
def spec_RunBills_enc (y : SBook × List Int) : Res T := ⟨[vR T 31 y.1, vR T 23 y.2], []⟩
theorem spec_RunBills_de (res : Res T) (y : SBook × List Int) (h : spec_RunBills_dec res = some y) : res = spec_RunBills_enc y := by
  obtain ⟨rets, outs⟩ := res
  unfold spec_RunBills_dec at h
  dsimp only at h
  split at h
  · obtain ⟨r0, h0, h⟩ := Option.bind_eq_some_iff.1 h
    obtain ⟨r1, h1, h⟩ := Option.bind_eq_some_iff.1 h
    cases h
    rw [retV_eq ok h0, retV_eq ok h1]
    rfl
  · cases h
def impl_own_impl_Bill_dec (res : Res T) : Option (List SBill) := match res.rets, res.outs with
  | [a0], [] => (retV (T := T) 29 a0).bind fun r0 => some (r0)
  | _, _ => none
def impl_own_impl_Bill_enc (y : List SBill) : Res T := ⟨[vR T 29 y], []⟩
theorem impl_own_impl_Bill_de (res : Res T) (y : List SBill) (h : impl_own_impl_Bill_dec res = some y) : res = impl_own_impl_Bill_enc y := by
  obtain ⟨rets, outs⟩ := res
  unfold impl_own_impl_Bill_dec at h
  dsimp only at h
  split at h
  · obtain ⟨r0, h0, h⟩ := Option.bind_eq_some_iff.1 h
    cases h
    rw [retV_eq ok h0]
    rfl
  · cases h
def impl_own_string_dec (res : Res T) : Option (List ByteArray) := match res.rets, res.outs with
  | [a0], [] => (retV (T := T) 61 a0).bind fun r0 => some (r0)
  | _, _ => none
def impl_own_string_enc (y : List ByteArray) : Res T := ⟨[vR T 61 y], []⟩
theorem impl_own_string_de (res : Res T) (y : List ByteArray) (h : impl_own_string_dec res = some y) : res = impl_own_string_enc y := by
  obtain ⟨rets, outs⟩ := res
  unfold impl_own_string_dec at h
  dsimp only at h
  split at h
  · obtain ⟨r0, h0, h⟩ := Option.bind_eq_some_iff.1 h
    cases h
    rw [retV_eq ok h0]
    rfl
  · cases h
def impl_own_int_dec (res : Res T) : Option (List Int) := match res.rets, res.outs with
  | [a0], [] => (retV (T := T) 23 a0).bind fun r0 => some (r0)
  | _, _ => none
def impl_own_int_enc (y : List Int) : Res T := ⟨[vR T 23 y], []⟩
theorem impl_own_int_de (res : Res T) (y : List Int) (h : impl_own_int_dec res = some y) : res = impl_own_int_enc y := by
  obtain ⟨rets, outs⟩ := res
  unfold impl_own_int_dec at h
  dsimp only at h
  split at h
  · obtain ⟨r0, h0, h⟩ := Option.bind_eq_some_iff.1 h
    cases h
    rw [retV_eq ok h0]
    rfl
  · cases h
def impl_Book_own_dec (res : Res T) : Option SBook := match res.rets, res.outs with
  | [a0], [] => (retV (T := T) 31 a0).bind fun r0 => some (r0)
  | _, _ => none
def impl_Book_own_enc (y : SBook) : Res T := ⟨[vR T 31 y], []⟩
theorem impl_Book_own_de (res : Res T) (y : SBook) (h : impl_Book_own_dec res = some y) : res = impl_Book_own_enc y := by
  obtain ⟨rets, outs⟩ := res
  unfold impl_Book_own_dec at h
  dsimp only at h
  split at h
  · obtain ⟨r0, h0, h⟩ := Option.bind_eq_some_iff.1 h
    cases h
    rw [retV_eq ok h0]
    rfl
  · cases h
def impl_nameOk_dec (res : Res T) : Option Bool := match res.rets, res.outs with
  | [a0], [] => (retV (T := T) 4 a0).bind fun r0 => some (r0)
  | _, _ => none
def impl_nameOk_enc (y : Bool) : Res T := ⟨[vR T 4 y], []⟩
theorem impl_nameOk_de (res : Res T) (y : Bool) (h : impl_nameOk_dec res = some y) : res = impl_nameOk_enc y := by
  obtain ⟨rets, outs⟩ := res
  unfold impl_nameOk_dec at h
  dsimp only at h
  split at h
  · obtain ⟨r0, h0, h⟩ := Option.bind_eq_some_iff.1 h
    cases h
    rw [retV_eq ok h0]
    rfl
  · cases h
def impl_in_dec (res : Res T) : Option Bool := match res.rets, res.outs with
  | [a0], [] => (retV (T := T) 4 a0).bind fun r0 => some (r0)
  | _, _ => none
def impl_in_enc (y : Bool) : Res T := ⟨[vR T 4 y], []⟩
theorem impl_in_de (res : Res T) (y : Bool) (h : impl_in_dec res = some y) : res = impl_in_enc y := by
  obtain ⟨rets, outs⟩ := res
  unfold impl_in_dec at h
  dsimp only at h
  split at h
  · obtain ⟨r0, h0, h⟩ := Option.bind_eq_some_iff.1 h
    cases h
    rw [retV_eq ok h0]
    rfl
  · cases h
def impl_idRight_dec (res : Res T) : Option Bool := match res.rets, res.outs with
  | [a0], [] => (retV (T := T) 4 a0).bind fun r0 => some (r0)
  | _, _ => none
def impl_idRight_enc (y : Bool) : Res T := ⟨[vR T 4 y], []⟩
theorem impl_idRight_de (res : Res T) (y : Bool) (h : impl_idRight_dec res = some y) : res = impl_idRight_enc y := by
  obtain ⟨rets, outs⟩ := res
  unfold impl_idRight_dec at h
  dsimp only at h
  split at h
  · obtain ⟨r0, h0, h⟩ := Option.bind_eq_some_iff.1 h
    cases h
    rw [retV_eq ok h0]
    rfl
  · cases h
def impl_emptyOrName_dec (res : Res T) : Option Bool := match res.rets, res.outs with
  | [a0], [] => (retV (T := T) 4 a0).bind fun r0 => some (r0)
  | _, _ => none
def impl_emptyOrName_enc (y : Bool) : Res T := ⟨[vR T 4 y], []⟩
theorem impl_emptyOrName_de (res : Res T) (y : Bool) (h : impl_emptyOrName_dec res = some y) : res = impl_emptyOrName_enc y := by
  obtain ⟨rets, outs⟩ := res
  unfold impl_emptyOrName_dec at h
  dsimp only at h
  split at h
  · obtain ⟨r0, h0, h⟩ := Option.bind_eq_some_iff.1 h
    cases h
    rw [retV_eq ok h0]
    rfl
  · cases h
def impl_BookOk_1_dec (res : Res T) : Option Bool := match res.rets, res.outs with
  | [a0], [] => (retV (T := T) 4 a0).bind fun r0 => some (r0)
  | _, _ => none
def impl_BookOk_1_enc (y : Bool) : Res T := ⟨[vR T 4 y], []⟩
theorem impl_BookOk_1_de (res : Res T) (y : Bool) (h : impl_BookOk_1_dec res = some y) : res = impl_BookOk_1_enc y := by
  obtain ⟨rets, outs⟩ := res
  unfold impl_BookOk_1_dec at h
  dsimp only at h
  split at h
  · obtain ⟨r0, h0, h⟩ := Option.bind_eq_some_iff.1 h
    cases h
    rw [retV_eq ok h0]
    rfl
  · cases h
def slices_IndexFunc_string_string__impl_BookOk_1_dec (res : Res T) : Option Int := match res.rets, res.outs with
  | [a0], [] => (retV (T := T) 3 a0).bind fun r0 => some (r0)
  | _, _ => none
def slices_IndexFunc_string_string__impl_BookOk_1_enc (y : Int) : Res T := ⟨[vR T 3 y], []⟩
theorem slices_IndexFunc_string_string__impl_BookOk_1_de (res : Res T) (y : Int) (h : slices_IndexFunc_string_string__impl_BookOk_1_dec res = some y) : res = slices_IndexFunc_string_string__impl_BookOk_1_enc y := by
  obtain ⟨rets, outs⟩ := res
  unfold slices_IndexFunc_string_string__impl_BookOk_1_dec at h
  dsimp only at h
  split at h
  · obtain ⟨r0, h0, h⟩ := Option.bind_eq_some_iff.1 h
    cases h
    rw [retV_eq ok h0]
    rfl
  · cases h
def slices_ContainsFunc_string_string__impl_BookOk_1_dec (res : Res T) : Option Bool := match res.rets, res.outs with
  | [a0], [] => (retV (T := T) 4 a0).bind fun r0 => some (r0)
  | _, _ => none
def slices_ContainsFunc_string_string__impl_BookOk_1_enc (y : Bool) : Res T := ⟨[vR T 4 y], []⟩
theorem slices_ContainsFunc_string_string__impl_BookOk_1_de (res : Res T) (y : Bool) (h : slices_ContainsFunc_string_string__impl_BookOk_1_dec res = some y) : res = slices_ContainsFunc_string_string__impl_BookOk_1_enc y := by
  obtain ⟨rets, outs⟩ := res
  unfold slices_ContainsFunc_string_string__impl_BookOk_1_dec at h
  dsimp only at h
  split at h
  · obtain ⟨r0, h0, h⟩ := Option.bind_eq_some_iff.1 h
    cases h
    rw [retV_eq ok h0]
    rfl
  · cases h
def impl_BookOk_dec (res : Res T) : Option Bool := match res.rets, res.outs with
  | [a0], [] => (retV (T := T) 4 a0).bind fun r0 => some (r0)
  | _, _ => none
def impl_BookOk_enc (y : Bool) : Res T := ⟨[vR T 4 y], []⟩
theorem impl_BookOk_de (res : Res T) (y : Bool) (h : impl_BookOk_dec res = some y) : res = impl_BookOk_enc y := by
  obtain ⟨rets, outs⟩ := res
  unfold impl_BookOk_dec at h
  dsimp only at h
  split at h
  · obtain ⟨r0, h0, h⟩ := Option.bind_eq_some_iff.1 h
    cases h
    rw [retV_eq ok h0]
    rfl
  · cases h
def impl_Book_at_1_dec (res : Res T) : Option Bool := match res.rets, res.outs with
  | [a0], [] => (retV (T := T) 4 a0).bind fun r0 => some (r0)
  | _, _ => none
def impl_Book_at_1_enc (y : Bool) : Res T := ⟨[vR T 4 y], []⟩
theorem impl_Book_at_1_de (res : Res T) (y : Bool) (h : impl_Book_at_1_dec res = some y) : res = impl_Book_at_1_enc y := by
  obtain ⟨rets, outs⟩ := res
  unfold impl_Book_at_1_dec at h
  dsimp only at h
  split at h
  · obtain ⟨r0, h0, h⟩ := Option.bind_eq_some_iff.1 h
    cases h
    rw [retV_eq ok h0]
    rfl
  · cases h
def slices_IndexFunc_impl_Bill_impl_Bill__impl_Book_at_1_dec (res : Res T) : Option Int := match res.rets, res.outs with
  | [a0], [] => (retV (T := T) 3 a0).bind fun r0 => some (r0)
  | _, _ => none
def slices_IndexFunc_impl_Bill_impl_Bill__impl_Book_at_1_enc (y : Int) : Res T := ⟨[vR T 3 y], []⟩
theorem slices_IndexFunc_impl_Bill_impl_Bill__impl_Book_at_1_de (res : Res T) (y : Int) (h : slices_IndexFunc_impl_Bill_impl_Bill__impl_Book_at_1_dec res = some y) : res = slices_IndexFunc_impl_Bill_impl_Bill__impl_Book_at_1_enc y := by
  obtain ⟨rets, outs⟩ := res
  unfold slices_IndexFunc_impl_Bill_impl_Bill__impl_Book_at_1_dec at h
  dsimp only at h
  split at h
  · obtain ⟨r0, h0, h⟩ := Option.bind_eq_some_iff.1 h
    cases h
    rw [retV_eq ok h0]
    rfl
  · cases h
def impl_Book_at_dec (res : Res T) : Option Int := match res.rets, res.outs with
  | [a0], [] => (retV (T := T) 3 a0).bind fun r0 => some (r0)
  | _, _ => none
def impl_Book_at_enc (y : Int) : Res T := ⟨[vR T 3 y], []⟩
theorem impl_Book_at_de (res : Res T) (y : Int) (h : impl_Book_at_dec res = some y) : res = impl_Book_at_enc y := by
  obtain ⟨rets, outs⟩ := res
  unfold impl_Book_at_dec at h
  dsimp only at h
  split at h
  · obtain ⟨r0, h0, h⟩ := Option.bind_eq_some_iff.1 h
    cases h
    rw [retV_eq ok h0]
    rfl
  · cases h
def impl_heldBy_dec (res : Res T) : Option (List ByteArray) := match res.rets, res.outs with
  | [a0], [] => (retV (T := T) 61 a0).bind fun r0 => some (r0)
  | _, _ => none
def impl_heldBy_enc (y : List ByteArray) : Res T := ⟨[vR T 61 y], []⟩
theorem impl_heldBy_de (res : Res T) (y : List ByteArray) (h : impl_heldBy_dec res = some y) : res = impl_heldBy_enc y := by
  obtain ⟨rets, outs⟩ := res
  unfold impl_heldBy_dec at h
  dsimp only at h
  split at h
  · obtain ⟨r0, h0, h⟩ := Option.bind_eq_some_iff.1 h
    cases h
    rw [retV_eq ok h0]
    rfl
  · cases h
def impl_DoBill_1_dec (res : Res T) : Option Int := match res.rets, res.outs with
  | [a0], [] => (retV (T := T) 3 a0).bind fun r0 => some (r0)
  | _, _ => none
def impl_DoBill_1_enc (y : Int) : Res T := ⟨[vR T 3 y], []⟩
theorem impl_DoBill_1_de (res : Res T) (y : Int) (h : impl_DoBill_1_dec res = some y) : res = impl_DoBill_1_enc y := by
  obtain ⟨rets, outs⟩ := res
  unfold impl_DoBill_1_dec at h
  dsimp only at h
  split at h
  · obtain ⟨r0, h0, h⟩ := Option.bind_eq_some_iff.1 h
    cases h
    rw [retV_eq ok h0]
    rfl
  · cases h
def slices_SortFunc_impl_Bill_impl_Bill__impl_DoBill_1_dec (res : Res T) : Option (List SBill) := match res.rets, res.outs with
  | [], [b0] => (outS (T := T) 64 b0).bind fun r0 => some (r0)
  | _, _ => none
def slices_SortFunc_impl_Bill_impl_Bill__impl_DoBill_1_enc (y : List SBill) : Res T := ⟨[], [.sl 64 y]⟩
theorem slices_SortFunc_impl_Bill_impl_Bill__impl_DoBill_1_de (res : Res T) (y : List SBill) (h : slices_SortFunc_impl_Bill_impl_Bill__impl_DoBill_1_dec res = some y) : res = slices_SortFunc_impl_Bill_impl_Bill__impl_DoBill_1_enc y := by
  obtain ⟨rets, outs⟩ := res
  unfold slices_SortFunc_impl_Bill_impl_Bill__impl_DoBill_1_dec at h
  dsimp only at h
  split at h
  · obtain ⟨r0, h0, h⟩ := Option.bind_eq_some_iff.1 h
    cases h
    rw [outS_eq h0]
    rfl
  · cases h
def slices_Index_int_int_dec (res : Res T) : Option Int := match res.rets, res.outs with
  | [a0], [] => (retV (T := T) 3 a0).bind fun r0 => some (r0)
  | _, _ => none
def slices_Index_int_int_enc (y : Int) : Res T := ⟨[vR T 3 y], []⟩
theorem slices_Index_int_int_de (res : Res T) (y : Int) (h : slices_Index_int_int_dec res = some y) : res = slices_Index_int_int_enc y := by
  obtain ⟨rets, outs⟩ := res
  unfold slices_Index_int_int_dec at h
  dsimp only at h
  split at h
  · obtain ⟨r0, h0, h⟩ := Option.bind_eq_some_iff.1 h
    cases h
    rw [retV_eq ok h0]
    rfl
  · cases h
def slices_Contains_int_int_dec (res : Res T) : Option Bool := match res.rets, res.outs with
  | [a0], [] => (retV (T := T) 4 a0).bind fun r0 => some (r0)
  | _, _ => none
def slices_Contains_int_int_enc (y : Bool) : Res T := ⟨[vR T 4 y], []⟩
theorem slices_Contains_int_int_de (res : Res T) (y : Bool) (h : slices_Contains_int_int_dec res = some y) : res = slices_Contains_int_int_enc y := by
  obtain ⟨rets, outs⟩ := res
  unfold slices_Contains_int_int_dec at h
  dsimp only at h
  split at h
  · obtain ⟨r0, h0, h⟩ := Option.bind_eq_some_iff.1 h
    cases h
    rw [retV_eq ok h0]
    rfl
  · cases h
def slices_Index_string_string_dec (res : Res T) : Option Int := match res.rets, res.outs with
  | [a0], [] => (retV (T := T) 3 a0).bind fun r0 => some (r0)
  | _, _ => none
def slices_Index_string_string_enc (y : Int) : Res T := ⟨[vR T 3 y], []⟩
theorem slices_Index_string_string_de (res : Res T) (y : Int) (h : slices_Index_string_string_dec res = some y) : res = slices_Index_string_string_enc y := by
  obtain ⟨rets, outs⟩ := res
  unfold slices_Index_string_string_dec at h
  dsimp only at h
  split at h
  · obtain ⟨r0, h0, h⟩ := Option.bind_eq_some_iff.1 h
    cases h
    rw [retV_eq ok h0]
    rfl
  · cases h
def slices_Contains_string_string_dec (res : Res T) : Option Bool := match res.rets, res.outs with
  | [a0], [] => (retV (T := T) 4 a0).bind fun r0 => some (r0)
  | _, _ => none
def slices_Contains_string_string_enc (y : Bool) : Res T := ⟨[vR T 4 y], []⟩
theorem slices_Contains_string_string_de (res : Res T) (y : Bool) (h : slices_Contains_string_string_dec res = some y) : res = slices_Contains_string_string_enc y := by
  obtain ⟨rets, outs⟩ := res
  unfold slices_Contains_string_string_dec at h
  dsimp only at h
  split at h
  · obtain ⟨r0, h0, h⟩ := Option.bind_eq_some_iff.1 h
    cases h
    rw [retV_eq ok h0]
    rfl
  · cases h
def slices_Sort_int_int_dec (res : Res T) : Option (List Int) := match res.rets, res.outs with
  | [], [b0] => (outS (T := T) 3 b0).bind fun r0 => some (r0)
  | _, _ => none
def slices_Sort_int_int_enc (y : List Int) : Res T := ⟨[], [.sl 3 y]⟩
theorem slices_Sort_int_int_de (res : Res T) (y : List Int) (h : slices_Sort_int_int_dec res = some y) : res = slices_Sort_int_int_enc y := by
  obtain ⟨rets, outs⟩ := res
  unfold slices_Sort_int_int_dec at h
  dsimp only at h
  split at h
  · obtain ⟨r0, h0, h⟩ := Option.bind_eq_some_iff.1 h
    cases h
    rw [outS_eq h0]
    rfl
  · cases h
def impl_DoBill_2_dec (res : Res T) : Option Bool := match res.rets, res.outs with
  | [a0], [] => (retV (T := T) 4 a0).bind fun r0 => some (r0)
  | _, _ => none
def impl_DoBill_2_enc (y : Bool) : Res T := ⟨[vR T 4 y], []⟩
theorem impl_DoBill_2_de (res : Res T) (y : Bool) (h : impl_DoBill_2_dec res = some y) : res = impl_DoBill_2_enc y := by
  obtain ⟨rets, outs⟩ := res
  unfold impl_DoBill_2_dec at h
  dsimp only at h
  split at h
  · obtain ⟨r0, h0, h⟩ := Option.bind_eq_some_iff.1 h
    cases h
    rw [retV_eq ok h0]
    rfl
  · cases h
def slices_IndexFunc_string_string__impl_DoBill_2_dec (res : Res T) : Option Int := match res.rets, res.outs with
  | [a0], [] => (retV (T := T) 3 a0).bind fun r0 => some (r0)
  | _, _ => none
def slices_IndexFunc_string_string__impl_DoBill_2_enc (y : Int) : Res T := ⟨[vR T 3 y], []⟩
theorem slices_IndexFunc_string_string__impl_DoBill_2_de (res : Res T) (y : Int) (h : slices_IndexFunc_string_string__impl_DoBill_2_dec res = some y) : res = slices_IndexFunc_string_string__impl_DoBill_2_enc y := by
  obtain ⟨rets, outs⟩ := res
  unfold slices_IndexFunc_string_string__impl_DoBill_2_dec at h
  dsimp only at h
  split at h
  · obtain ⟨r0, h0, h⟩ := Option.bind_eq_some_iff.1 h
    cases h
    rw [retV_eq ok h0]
    rfl
  · cases h
def slices_ContainsFunc_string_string__impl_DoBill_2_dec (res : Res T) : Option Bool := match res.rets, res.outs with
  | [a0], [] => (retV (T := T) 4 a0).bind fun r0 => some (r0)
  | _, _ => none
def slices_ContainsFunc_string_string__impl_DoBill_2_enc (y : Bool) : Res T := ⟨[vR T 4 y], []⟩
theorem slices_ContainsFunc_string_string__impl_DoBill_2_de (res : Res T) (y : Bool) (h : slices_ContainsFunc_string_string__impl_DoBill_2_dec res = some y) : res = slices_ContainsFunc_string_string__impl_DoBill_2_enc y := by
  obtain ⟨rets, outs⟩ := res
  unfold slices_ContainsFunc_string_string__impl_DoBill_2_dec at h
  dsimp only at h
  split at h
  · obtain ⟨r0, h0, h⟩ := Option.bind_eq_some_iff.1 h
    cases h
    rw [retV_eq ok h0]
    rfl
  · cases h
def impl_DoBill_dec (res : Res T) : Option (SBook × Int) := match res.rets, res.outs with
  | [a0, a1], [] => (retV (T := T) 31 a0).bind fun r0 => (retV (T := T) 3 a1).bind fun r1 => some (r0, r1)
  | _, _ => none
def impl_DoBill_enc (y : SBook × Int) : Res T := ⟨[vR T 31 y.1, vR T 3 y.2], []⟩
theorem impl_DoBill_de (res : Res T) (y : SBook × Int) (h : impl_DoBill_dec res = some y) : res = impl_DoBill_enc y := by
  obtain ⟨rets, outs⟩ := res
  unfold impl_DoBill_dec at h
  dsimp only at h
  split at h
  · obtain ⟨r0, h0, h⟩ := Option.bind_eq_some_iff.1 h
    obtain ⟨r1, h1, h⟩ := Option.bind_eq_some_iff.1 h
    cases h
    rw [retV_eq ok h0, retV_eq ok h1]
    rfl
  · cases h
def impl_RunBills_dec (res : Res T) : Option (SBook × List Int) := match res.rets, res.outs with
  | [a0, a1], [] => (retV (T := T) 31 a0).bind fun r0 => (retV (T := T) 23 a1).bind fun r1 => some (r0, r1)
  | _, _ => none
def impl_RunBills_enc (y : SBook × List Int) : Res T := ⟨[vR T 31 y.1, vR T 23 y.2], []⟩
theorem impl_RunBills_de (res : Res T) (y : SBook × List Int) (h : impl_RunBills_dec res = some y) : res = impl_RunBills_enc y := by
  obtain ⟨rets, outs⟩ := res
  unfold impl_RunBills_dec at h
  dsimp only at h
  split at h
  · obtain ⟨r0, h0, h⟩ := Option.bind_eq_some_iff.1 h
    obtain ⟨r1, h1, h⟩ := Option.bind_eq_some_iff.1 h
    cases h
    rw [retV_eq ok h0, retV_eq ok h1]
    rfl
  · cases h
def laws_eqStringS_dec (res : Res T) : Option Bool := match res.rets, res.outs with
  | [a0], [] => (retV (T := T) 4 a0).bind fun r0 => some (r0)
  | _, _ => none
def laws_eqStringS_enc (y : Bool) : Res T := ⟨[vR T 4 y], []⟩
theorem laws_eqStringS_de (res : Res T) (y : Bool) (h : laws_eqStringS_dec res = some y) : res = laws_eqStringS_enc y := by
  obtain ⟨rets, outs⟩ := res
  unfold laws_eqStringS_dec at h
  dsimp only at h
  split at h
  · obtain ⟨r0, h0, h⟩ := Option.bind_eq_some_iff.1 h
    cases h
    rw [retV_eq ok h0]
    rfl
  · cases h
def laws_eqBill_dec (res : Res T) : Option Bool := match res.rets, res.outs with
  | [a0], [] => (retV (T := T) 4 a0).bind fun r0 => some (r0)
  | _, _ => none
def laws_eqBill_enc (y : Bool) : Res T := ⟨[vR T 4 y], []⟩
theorem laws_eqBill_de (res : Res T) (y : Bool) (h : laws_eqBill_dec res = some y) : res = laws_eqBill_enc y := by
  obtain ⟨rets, outs⟩ := res
  unfold laws_eqBill_dec at h
  dsimp only at h
  split at h
  · obtain ⟨r0, h0, h⟩ := Option.bind_eq_some_iff.1 h
    cases h
    rw [retV_eq ok h0]
    rfl
  · cases h
def laws_eqBillS_dec (res : Res T) : Option Bool := match res.rets, res.outs with
  | [a0], [] => (retV (T := T) 4 a0).bind fun r0 => some (r0)
  | _, _ => none
def laws_eqBillS_enc (y : Bool) : Res T := ⟨[vR T 4 y], []⟩
theorem laws_eqBillS_de (res : Res T) (y : Bool) (h : laws_eqBillS_dec res = some y) : res = laws_eqBillS_enc y := by
  obtain ⟨rets, outs⟩ := res
  unfold laws_eqBillS_dec at h
  dsimp only at h
  split at h
  · obtain ⟨r0, h0, h⟩ := Option.bind_eq_some_iff.1 h
    cases h
    rw [retV_eq ok h0]
    rfl
  · cases h
def laws_eqIntS_dec (res : Res T) : Option Bool := match res.rets, res.outs with
  | [a0], [] => (retV (T := T) 4 a0).bind fun r0 => some (r0)
  | _, _ => none
def laws_eqIntS_enc (y : Bool) : Res T := ⟨[vR T 4 y], []⟩
theorem laws_eqIntS_de (res : Res T) (y : Bool) (h : laws_eqIntS_dec res = some y) : res = laws_eqIntS_enc y := by
  obtain ⟨rets, outs⟩ := res
  unfold laws_eqIntS_dec at h
  dsimp only at h
  split at h
  · obtain ⟨r0, h0, h⟩ := Option.bind_eq_some_iff.1 h
    cases h
    rw [retV_eq ok h0]
    rfl
  · cases h
def laws_eqBook_dec (res : Res T) : Option Bool := match res.rets, res.outs with
  | [a0], [] => (retV (T := T) 4 a0).bind fun r0 => some (r0)
  | _, _ => none
def laws_eqBook_enc (y : Bool) : Res T := ⟨[vR T 4 y], []⟩
theorem laws_eqBook_de (res : Res T) (y : Bool) (h : laws_eqBook_dec res = some y) : res = laws_eqBook_enc y := by
  obtain ⟨rets, outs⟩ := res
  unfold laws_eqBook_dec at h
  dsimp only at h
  split at h
  · obtain ⟨r0, h0, h⟩ := Option.bind_eq_some_iff.1 h
    cases h
    rw [retV_eq ok h0]
    rfl
  · cases h
def laws_eqBillOp_dec (res : Res T) : Option Bool := match res.rets, res.outs with
  | [a0], [] => (retV (T := T) 4 a0).bind fun r0 => some (r0)
  | _, _ => none
def laws_eqBillOp_enc (y : Bool) : Res T := ⟨[vR T 4 y], []⟩
theorem laws_eqBillOp_de (res : Res T) (y : Bool) (h : laws_eqBillOp_dec res = some y) : res = laws_eqBillOp_enc y := by
  obtain ⟨rets, outs⟩ := res
  unfold laws_eqBillOp_dec at h
  dsimp only at h
  split at h
  · obtain ⟨r0, h0, h⟩ := Option.bind_eq_some_iff.1 h
    cases h
    rw [retV_eq ok h0]
    rfl
  · cases h
def laws_eqBillOpS_dec (res : Res T) : Option Bool := match res.rets, res.outs with
  | [a0], [] => (retV (T := T) 4 a0).bind fun r0 => some (r0)
  | _, _ => none
def laws_eqBillOpS_enc (y : Bool) : Res T := ⟨[vR T 4 y], []⟩
theorem laws_eqBillOpS_de (res : Res T) (y : Bool) (h : laws_eqBillOpS_dec res = some y) : res = laws_eqBillOpS_enc y := by
  obtain ⟨rets, outs⟩ := res
  unfold laws_eqBillOpS_dec at h
  dsimp only at h
  split at h
  · obtain ⟨r0, h0, h⟩ := Option.bind_eq_some_iff.1 h
    cases h
    rw [retV_eq ok h0]
    rfl
  · cases h
def laws_markText_dec (res : Res T) : Option ByteArray := match res.rets, res.outs with
  | [a0], [] => (retV (T := T) 9 a0).bind fun r0 => some (r0)
  | _, _ => none
def laws_markText_enc (y : ByteArray) : Res T := ⟨[vR T 9 y], []⟩
theorem laws_markText_de (res : Res T) (y : ByteArray) (h : laws_markText_dec res = some y) : res = laws_markText_enc y := by
  obtain ⟨rets, outs⟩ := res
  unfold laws_markText_dec at h
  dsimp only at h
  split at h
  · obtain ⟨r0, h0, h⟩ := Option.bind_eq_some_iff.1 h
    cases h
    rw [retV_eq ok h0]
    rfl
  · cases h
def laws_markStringS_dec (res : Res T) : Option (Int × List ByteArray) := match res.rets, res.outs with
  | [a0], [b0] => (retV (T := T) 3 a0).bind fun r0 => (outS (T := T) 9 b0).bind fun r1 => some (r0, r1)
  | _, _ => none
def laws_markStringS_enc (y : Int × List ByteArray) : Res T := ⟨[vR T 3 y.1], [.sl 9 y.2]⟩
theorem laws_markStringS_de (res : Res T) (y : Int × List ByteArray) (h : laws_markStringS_dec res = some y) : res = laws_markStringS_enc y := by
  obtain ⟨rets, outs⟩ := res
  unfold laws_markStringS_dec at h
  dsimp only at h
  split at h
  · obtain ⟨r0, h0, h⟩ := Option.bind_eq_some_iff.1 h
    obtain ⟨r1, h1, h⟩ := Option.bind_eq_some_iff.1 h
    cases h
    rw [retV_eq ok h0, outS_eq h1]
    rfl
  · cases h
def laws_markBillS_dec (res : Res T) : Option (Int × List SBill) := match res.rets, res.outs with
  | [a0], [b0] => (retV (T := T) 3 a0).bind fun r0 => (outS (T := T) 64 b0).bind fun r1 => some (r0, r1)
  | _, _ => none
def laws_markBillS_enc (y : Int × List SBill) : Res T := ⟨[vR T 3 y.1], [.sl 64 y.2]⟩
theorem laws_markBillS_de (res : Res T) (y : Int × List SBill) (h : laws_markBillS_dec res = some y) : res = laws_markBillS_enc y := by
  obtain ⟨rets, outs⟩ := res
  unfold laws_markBillS_dec at h
  dsimp only at h
  split at h
  · obtain ⟨r0, h0, h⟩ := Option.bind_eq_some_iff.1 h
    obtain ⟨r1, h1, h⟩ := Option.bind_eq_some_iff.1 h
    cases h
    rw [retV_eq ok h0, outS_eq h1]
    rfl
  · cases h
def laws_markIntS_dec (res : Res T) : Option (Int × List Int) := match res.rets, res.outs with
  | [a0], [b0] => (retV (T := T) 3 a0).bind fun r0 => (outS (T := T) 3 b0).bind fun r1 => some (r0, r1)
  | _, _ => none
def laws_markIntS_enc (y : Int × List Int) : Res T := ⟨[vR T 3 y.1], [.sl 3 y.2]⟩
theorem laws_markIntS_de (res : Res T) (y : Int × List Int) (h : laws_markIntS_dec res = some y) : res = laws_markIntS_enc y := by
  obtain ⟨rets, outs⟩ := res
  unfold laws_markIntS_dec at h
  dsimp only at h
  split at h
  · obtain ⟨r0, h0, h⟩ := Option.bind_eq_some_iff.1 h
    obtain ⟨r1, h1, h⟩ := Option.bind_eq_some_iff.1 h
    cases h
    rw [retV_eq ok h0, outS_eq h1]
    rfl
  · cases h
def laws_markBook_dec (res : Res T) : Option (Int × List SBill × List Int) := match res.rets, res.outs with
  | [a0], [b0, b1] => (retV (T := T) 3 a0).bind fun r0 => (outS (T := T) 64 b0).bind fun r1 => (outS (T := T) 3 b1).bind fun r2 => some (r0, r1, r2)
  | _, _ => none
def laws_markBook_enc (y : Int × List SBill × List Int) : Res T := ⟨[vR T 3 y.1], [.sl 64 y.2.1, .sl 3 y.2.2]⟩
theorem laws_markBook_de (res : Res T) (y : Int × List SBill × List Int) (h : laws_markBook_dec res = some y) : res = laws_markBook_enc y := by
  obtain ⟨rets, outs⟩ := res
  unfold laws_markBook_dec at h
  dsimp only at h
  split at h
  · obtain ⟨r0, h0, h⟩ := Option.bind_eq_some_iff.1 h
    obtain ⟨r1, h1, h⟩ := Option.bind_eq_some_iff.1 h
    obtain ⟨r2, h2, h⟩ := Option.bind_eq_some_iff.1 h
    cases h
    rw [retV_eq ok h0, outS_eq h1, outS_eq h2]
    rfl
  · cases h
def laws_markBillOpS_dec (res : Res T) : Option (Int × List SBillOp) := match res.rets, res.outs with
  | [a0], [b0] => (retV (T := T) 3 a0).bind fun r0 => (outS (T := T) 51 b0).bind fun r1 => some (r0, r1)
  | _, _ => none
def laws_markBillOpS_enc (y : Int × List SBillOp) : Res T := ⟨[vR T 3 y.1], [.sl 51 y.2]⟩
theorem laws_markBillOpS_de (res : Res T) (y : Int × List SBillOp) (h : laws_markBillOpS_dec res = some y) : res = laws_markBillOpS_enc y := by
  obtain ⟨rets, outs⟩ := res
  unfold laws_markBillOpS_dec at h
  dsimp only at h
  split at h
  · obtain ⟨r0, h0, h⟩ := Option.bind_eq_some_iff.1 h
    obtain ⟨r1, h1, h⟩ := Option.bind_eq_some_iff.1 h
    cases h
    rw [retV_eq ok h0, outS_eq h1]
    rfl
  · cases h
def laws_heldStringS_dec (res : Res T) : Option Int := match res.rets, res.outs with
  | [a0], [] => (retV (T := T) 3 a0).bind fun r0 => some (r0)
  | _, _ => none
def laws_heldStringS_enc (y : Int) : Res T := ⟨[vR T 3 y], []⟩
theorem laws_heldStringS_de (res : Res T) (y : Int) (h : laws_heldStringS_dec res = some y) : res = laws_heldStringS_enc y := by
  obtain ⟨rets, outs⟩ := res
  unfold laws_heldStringS_dec at h
  dsimp only at h
  split at h
  · obtain ⟨r0, h0, h⟩ := Option.bind_eq_some_iff.1 h
    cases h
    rw [retV_eq ok h0]
    rfl
  · cases h
def laws_heldBillS_dec (res : Res T) : Option Int := match res.rets, res.outs with
  | [a0], [] => (retV (T := T) 3 a0).bind fun r0 => some (r0)
  | _, _ => none
def laws_heldBillS_enc (y : Int) : Res T := ⟨[vR T 3 y], []⟩
theorem laws_heldBillS_de (res : Res T) (y : Int) (h : laws_heldBillS_dec res = some y) : res = laws_heldBillS_enc y := by
  obtain ⟨rets, outs⟩ := res
  unfold laws_heldBillS_dec at h
  dsimp only at h
  split at h
  · obtain ⟨r0, h0, h⟩ := Option.bind_eq_some_iff.1 h
    cases h
    rw [retV_eq ok h0]
    rfl
  · cases h
def laws_heldIntS_dec (res : Res T) : Option Int := match res.rets, res.outs with
  | [a0], [] => (retV (T := T) 3 a0).bind fun r0 => some (r0)
  | _, _ => none
def laws_heldIntS_enc (y : Int) : Res T := ⟨[vR T 3 y], []⟩
theorem laws_heldIntS_de (res : Res T) (y : Int) (h : laws_heldIntS_dec res = some y) : res = laws_heldIntS_enc y := by
  obtain ⟨rets, outs⟩ := res
  unfold laws_heldIntS_dec at h
  dsimp only at h
  split at h
  · obtain ⟨r0, h0, h⟩ := Option.bind_eq_some_iff.1 h
    cases h
    rw [retV_eq ok h0]
    rfl
  · cases h
def laws_heldBook_dec (res : Res T) : Option Int := match res.rets, res.outs with
  | [a0], [] => (retV (T := T) 3 a0).bind fun r0 => some (r0)
  | _, _ => none
def laws_heldBook_enc (y : Int) : Res T := ⟨[vR T 3 y], []⟩
theorem laws_heldBook_de (res : Res T) (y : Int) (h : laws_heldBook_dec res = some y) : res = laws_heldBook_enc y := by
  obtain ⟨rets, outs⟩ := res
  unfold laws_heldBook_dec at h
  dsimp only at h
  split at h
  · obtain ⟨r0, h0, h⟩ := Option.bind_eq_some_iff.1 h
    cases h
    rw [retV_eq ok h0]
    rfl
  · cases h
def laws_FnExactRunBills_dec (res : Res T) : Option Bool := match res.rets, res.outs with
  | [a0], [] => (retV (T := T) 4 a0).bind fun r0 => some (r0)
  | _, _ => none
def laws_FnExactRunBills_enc (y : Bool) : Res T := ⟨[vR T 4 y], []⟩
theorem laws_FnExactRunBills_de (res : Res T) (y : Bool) (h : laws_FnExactRunBills_dec res = some y) : res = laws_FnExactRunBills_enc y := by
  obtain ⟨rets, outs⟩ := res
  unfold laws_FnExactRunBills_dec at h
  dsimp only at h
  split at h
  · obtain ⟨r0, h0, h⟩ := Option.bind_eq_some_iff.1 h
    cases h
    rw [retV_eq ok h0]
    rfl
  · cases h
def laws_szStringS_D (n : Nat) (r0 : List (A T)) : Option Int := ocons r0 fun a0 r1 => ocons r1 fun a1 r2 => onil r2 (obind (argV (T := T) 61 a0) fun a0 => obind (argV (T := T) 3 a1) fun left1 => laws_szStringS n a0 left1)
def laws_szStringS_ent (n : Nat) : Ent T := ⟨61, 0, [], Int, laws_szStringS_D n, laws_szStringS_enc⟩
def laws_szBill_D (n : Nat) (r0 : List (A T)) : Option Int := ocons r0 fun a0 r1 => ocons r1 fun a1 r2 => onil r2 (obind (argV (T := T) 63 a0) fun a0 => obind (argV (T := T) 3 a1) fun left1 => laws_szBill n a0 left1)
def laws_szBill_ent (n : Nat) : Ent T := ⟨34, 1, [], Int, laws_szBill_D n, laws_szBill_enc⟩
def laws_szBillS_D (n : Nat) (r0 : List (A T)) : Option Int := ocons r0 fun a0 r1 => ocons r1 fun a1 r2 => onil r2 (obind (argV (T := T) 22 a0) fun a0 => obind (argV (T := T) 3 a1) fun left1 => laws_szBillS n a0 left1)
def laws_szBillS_ent (n : Nat) : Ent T := ⟨18, 2, [], Int, laws_szBillS_D n, laws_szBillS_enc⟩
def laws_szIntS_D (n : Nat) (r0 : List (A T)) : Option Int := ocons r0 fun a0 r1 => ocons r1 fun a1 r2 => onil r2 (obind (argV (T := T) 23 a0) fun a0 => obind (argV (T := T) 3 a1) fun left1 => laws_szIntS n a0 left1)
def laws_szIntS_ent (n : Nat) : Ent T := ⟨19, 3, [], Int, laws_szIntS_D n, laws_szIntS_enc⟩
def laws_szBook_D (n : Nat) (r0 : List (A T)) : Option Int := ocons r0 fun a0 r1 => ocons r1 fun a1 r2 => onil r2 (obind (argV (T := T) 25 a0) fun a0 => obind (argV (T := T) 3 a1) fun left1 => laws_szBook n a0 left1)
def laws_szBook_ent (n : Nat) : Ent T := ⟨4, 4, [], Int, laws_szBook_D n, laws_szBook_enc⟩
def laws_szBillOp_D (n : Nat) (r0 : List (A T)) : Option Int := ocons r0 fun a0 r1 => ocons r1 fun a1 r2 => onil r2 (obind (argV (T := T) 47 a0) fun a0 => obind (argV (T := T) 3 a1) fun left1 => laws_szBillOp n a0 left1)
def laws_szBillOp_ent (n : Nat) : Ent T := ⟨20, 5, [], Int, laws_szBillOp_D n, laws_szBillOp_enc⟩
def laws_szBillOpS_D (n : Nat) (r0 : List (A T)) : Option Int := ocons r0 fun a0 r1 => ocons r1 fun a1 r2 => onil r2 (obind (argV (T := T) 26 a0) fun a0 => obind (argV (T := T) 3 a1) fun left1 => laws_szBillOpS n a0 left1)
def laws_szBillOpS_ent (n : Nat) : Ent T := ⟨5, 6, [], Int, laws_szBillOpS_D n, laws_szBillOpS_enc⟩
def laws_toStringS_D (n : Nat) (r0 : List (A T)) : Option (List ByteArray) := ocons r0 fun a0 r1 => onil r1 (obind (argV (T := T) 61 a0) fun a0 => laws_toStringS n a0)
def laws_toStringS_ent (n : Nat) : Ent T := ⟨65, 7, [], List ByteArray, laws_toStringS_D n, laws_toStringS_enc⟩
def laws_toBill_D (n : Nat) (r0 : List (A T)) : Option SBill := ocons r0 fun a0 r1 => onil r1 (obind (argV (T := T) 63 a0) fun a0 => laws_toBill n a0)
def laws_toBill_ent (n : Nat) : Ent T := ⟨41, 8, [], SBill, laws_toBill_D n, laws_toBill_enc⟩
def laws_toBillS_D (n : Nat) (r0 : List (A T)) : Option (List SBill) := ocons r0 fun a0 r1 => onil r1 (obind (argV (T := T) 22 a0) fun a0 => laws_toBillS n a0)
def laws_toBillS_ent (n : Nat) : Ent T := ⟨23, 9, [], List SBill, laws_toBillS_D n, laws_toBillS_enc⟩
def laws_toIntS_D (n : Nat) (r0 : List (A T)) : Option (List Int) := ocons r0 fun a0 r1 => onil r1 (obind (argV (T := T) 23 a0) fun a0 => laws_toIntS n a0)
def laws_toIntS_ent (n : Nat) : Ent T := ⟨24, 10, [], List Int, laws_toIntS_D n, laws_toIntS_enc⟩
def laws_toBook_D (n : Nat) (r0 : List (A T)) : Option SBook := ocons r0 fun a0 r1 => onil r1 (obind (argV (T := T) 25 a0) fun a0 => laws_toBook n a0)
def laws_toBook_ent (n : Nat) : Ent T := ⟨7, 11, [], SBook, laws_toBook_D n, laws_toBook_enc⟩
def laws_toBillOp_D (n : Nat) (r0 : List (A T)) : Option SBillOp := ocons r0 fun a0 r1 => onil r1 (obind (argV (T := T) 47 a0) fun a0 => laws_toBillOp n a0)
def laws_toBillOp_ent (n : Nat) : Ent T := ⟨25, 12, [], SBillOp, laws_toBillOp_D n, laws_toBillOp_enc⟩
def laws_toBillOpS_D (n : Nat) (r0 : List (A T)) : Option (List SBillOp) := ocons r0 fun a0 r1 => onil r1 (obind (argV (T := T) 26 a0) fun a0 => laws_toBillOpS n a0)
def laws_toBillOpS_ent (n : Nat) : Ent T := ⟨8, 13, [], List SBillOp, laws_toBillOpS_D n, laws_toBillOpS_enc⟩
def spec_l14Copy_D (n : Nat) (r0 : List (A T)) : Option SBook := ocons r0 fun a0 r1 => onil r1 (obind (argV (T := T) 31 a0) fun b0 => spec_l14Copy n b0)
def spec_l14Copy_ent (n : Nat) : Ent T := ⟨21, 14, [], SBook, spec_l14Copy_D n, spec_l14Copy_enc⟩
def spec_l1In_D (n : Nat) (r0 : List (A T)) : Option Bool := ocons r0 fun a0 r1 => ocons r1 fun a1 r2 => ocons r2 fun a2 r3 => onil r3 (obind (argV (T := T) 3 a0) fun x0 => obind (argV (T := T) 3 a1) fun a1 => obind (argV (T := T) 3 a2) fun b2 => spec_l1In n x0 a1 b2)
def spec_l1In_ent (n : Nat) : Ent T := ⟨62, 15, [], Bool, spec_l1In_D n, spec_l1In_enc⟩
def spec_l1Name_D (n : Nat) (r0 : List (A T)) : Option Bool := ocons r0 fun a0 r1 => onil r1 (obind (argV (T := T) 9 a0) fun s0 => spec_l1Name n s0)
def spec_l1Name_ent (n : Nat) : Ent T := ⟨63, 16, [], Bool, spec_l1Name_D n, spec_l1Name_enc⟩
def spec_l14Find_D (n : Nat) (r0 : List (A T)) : Option Int := ocons r0 fun a0 r1 => ocons r1 fun a1 r2 => onil r2 (obind (argV (T := T) 31 a0) fun b0 => obind (argV (T := T) 3 a1) fun id1 => spec_l14Find n b0 id1)
def spec_l14Find_ent (n : Nat) : Ent T := ⟨37, 17, [], Int, spec_l14Find_D n, spec_l14Find_enc⟩
def spec_BookOk_D (n : Nat) (r0 : List (A T)) : Option Bool := ocons r0 fun a0 r1 => onil r1 (obind (argV (T := T) 31 a0) fun b0 => spec_BookOk n b0)
def spec_BookOk_ent (n : Nat) : Ent T := ⟨35, 18, [], Bool, spec_BookOk_D n, spec_BookOk_enc⟩
def spec_l14Op_D (n : Nat) (r0 : List (A T)) : Option Bool := ocons r0 fun a0 r1 => onil r1 (obind (argV (T := T) 51 a0) fun op0 => spec_l14Op n op0)
def spec_l14Op_ent (n : Nat) : Ent T := ⟨36, 19, [], Bool, spec_l14Op_D n, spec_l14Op_enc⟩
def spec_l14Made_D (n : Nat) (r0 : List (A T)) : Option (List ByteArray) := ocons r0 fun a0 r1 => ocons r1 fun a1 r2 => onil r2 (obind (argV (T := T) 9 a0) fun who0 => obind (argV (T := T) 3 a1) fun many1 => spec_l14Made n who0 many1)
def spec_l14Made_ent (n : Nat) : Ent T := ⟨38, 20, [], List ByteArray, spec_l14Made_D n, spec_l14Made_enc⟩
def spec_l9Has_D (n : Nat) (r0 : List (A T)) : Option Bool := ocons r0 fun a0 r1 => ocons r1 fun a1 r2 => onil r2 (obind (argV (T := T) 23 a0) fun list0 => obind (argV (T := T) 3 a1) fun x1 => spec_l9Has n list0 x1)
def spec_l9Has_ent (n : Nat) : Ent T := ⟨39, 21, [], Bool, spec_l9Has_D n, spec_l9Has_enc⟩
def spec_l14Holds_D (n : Nat) (r0 : List (A T)) : Option Int := ocons r0 fun a0 r1 => ocons r1 fun a1 r2 => onil r2 (obind (argV (T := T) 64 a0) fun x0 => obind (argV (T := T) 9 a1) fun who1 => spec_l14Holds n x0 who1)
def spec_l14Holds_ent (n : Nat) : Ent T := ⟨64, 22, [], Int, spec_l14Holds_D n, spec_l14Holds_enc⟩
def spec_l14Do_D (n : Nat) (r0 : List (A T)) : Option (SBill × Bool) := ocons r0 fun a0 r1 => ocons r1 fun a1 r2 => onil r2 (obind (argV (T := T) 64 a0) fun x0 => obind (argV (T := T) 51 a1) fun op1 => spec_l14Do n x0 op1)
def spec_l14Do_ent (n : Nat) : Ent T := ⟨40, 23, [], SBill × Bool, spec_l14Do_D n, spec_l14Do_enc⟩
def spec_DoBill_D (n : Nat) (r0 : List (A T)) : Option (SBook × Int) := ocons r0 fun a0 r1 => ocons r1 fun a1 r2 => onil r2 (obind (argV (T := T) 31 a0) fun b0 => obind (argV (T := T) 51 a1) fun op1 => spec_DoBill n b0 op1)
def spec_DoBill_ent (n : Nat) : Ent T := ⟨22, 24, [], SBook × Int, spec_DoBill_D n, spec_DoBill_enc⟩
def spec_RunBills_D (n : Nat) (r0 : List (A T)) : Option (SBook × List Int) := ocons r0 fun a0 r1 => ocons r1 fun a1 r2 => onil r2 (obind (argV (T := T) 31 a0) fun b0 => obind (argV (T := T) 35 a1) fun ops1 => spec_RunBills n b0 ops1)
def spec_RunBills_ent (n : Nat) : Ent T := ⟨6, 25, [], SBook × List Int, spec_RunBills_D n, spec_RunBills_enc⟩
def impl_own_impl_Bill_D (n : Nat) (r0 : List (A T)) : Option (List SBill) := ocons r0 fun a0 r1 => onil r1 (obind (argV (T := T) 29 a0) fun l0 => impl_own_impl_Bill n l0)
def impl_own_impl_Bill_ent (n : Nat) : Ent T := ⟨42, 26, [], List SBill, impl_own_impl_Bill_D n, impl_own_impl_Bill_enc⟩
def impl_own_string_D (n : Nat) (r0 : List (A T)) : Option (List ByteArray) := ocons r0 fun a0 r1 => onil r1 (obind (argV (T := T) 61 a0) fun l0 => impl_own_string n l0)
def impl_own_string_ent (n : Nat) : Ent T := ⟨43, 27, [], List ByteArray, impl_own_string_D n, impl_own_string_enc⟩
def impl_own_int_D (n : Nat) (r0 : List (A T)) : Option (List Int) := ocons r0 fun a0 r1 => onil r1 (obind (argV (T := T) 23 a0) fun l0 => impl_own_int n l0)
def impl_own_int_ent (n : Nat) : Ent T := ⟨28, 28, [], List Int, impl_own_int_D n, impl_own_int_enc⟩
def impl_Book_own_D (n : Nat) (r0 : List (A T)) : Option SBook := ocons r0 fun a0 r1 => onil r1 (obind (argV (T := T) 31 a0) fun b0 => impl_Book_own n b0)
def impl_Book_own_ent (n : Nat) : Ent T := ⟨26, 29, [], SBook, impl_Book_own_D n, impl_Book_own_enc⟩
def impl_nameOk_D (n : Nat) (r0 : List (A T)) : Option Bool := ocons r0 fun a0 r1 => onil r1 (obind (argV (T := T) 9 a0) fun s0 => impl_nameOk n s0)
def impl_nameOk_ent (n : Nat) : Ent T := ⟨44, 30, [], Bool, impl_nameOk_D n, impl_nameOk_enc⟩
def impl_in_D (n : Nat) (r0 : List (A T)) : Option Bool := ocons r0 fun a0 r1 => ocons r1 fun a1 r2 => ocons r2 fun a2 r3 => onil r3 (obind (argV (T := T) 3 a0) fun n0 => obind (argV (T := T) 3 a1) fun least1 => obind (argV (T := T) 3 a2) fun most2 => impl_in n n0 least1 most2)
def impl_in_ent (n : Nat) : Ent T := ⟨47, 31, [], Bool, impl_in_D n, impl_in_enc⟩
def impl_idRight_D (n : Nat) (r0 : List (A T)) : Option Bool := ocons r0 fun a0 r1 => onil r1 (obind (argV (T := T) 3 a0) fun n0 => impl_idRight n n0)
def impl_idRight_ent (n : Nat) : Ent T := ⟨48, 32, [], Bool, impl_idRight_D n, impl_idRight_enc⟩
def impl_emptyOrName_D (n : Nat) (r0 : List (A T)) : Option Bool := ocons r0 fun a0 r1 => onil r1 (obind (argV (T := T) 9 a0) fun s0 => impl_emptyOrName n s0)
def impl_emptyOrName_ent (n : Nat) : Ent T := ⟨45, 33, [], Bool, impl_emptyOrName_D n, impl_emptyOrName_enc⟩
def impl_BookOk_1_D (n : Nat) (r0 : List (A T)) : Option Bool := ocons r0 fun a0 r1 => onil r1 (obind (argV (T := T) 9 a0) fun s0 => impl_BookOk_1 n s0)
def impl_BookOk_1_ent (n : Nat) : Ent T := ⟨66, 34, [], Bool, impl_BookOk_1_D n, impl_BookOk_1_enc⟩
def slices_IndexFunc_string_string__impl_BookOk_1_D (n : Nat) (ar : List (A T)) : Option Int := match ar with
  | [a0, .fn _ []] => obind (argV (T := T) 61 a0) fun s0 => slices_IndexFunc_string_string__impl_BookOk_1 n s0
  | _ => none
def slices_IndexFunc_string_string__impl_BookOk_1_ent (n : Nat) : Ent T := ⟨73, 35, [66], Int, slices_IndexFunc_string_string__impl_BookOk_1_D n, slices_IndexFunc_string_string__impl_BookOk_1_enc⟩
def slices_ContainsFunc_string_string__impl_BookOk_1_D (n : Nat) (ar : List (A T)) : Option Bool := match ar with
  | [a0, .fn _ []] => obind (argV (T := T) 61 a0) fun s0 => slices_ContainsFunc_string_string__impl_BookOk_1 n s0
  | _ => none
def slices_ContainsFunc_string_string__impl_BookOk_1_ent (n : Nat) : Ent T := ⟨55, 36, [66], Bool, slices_ContainsFunc_string_string__impl_BookOk_1_D n, slices_ContainsFunc_string_string__impl_BookOk_1_enc⟩
def impl_BookOk_D (n : Nat) (r0 : List (A T)) : Option Bool := ocons r0 fun a0 r1 => onil r1 (obind (argV (T := T) 31 a0) fun b0 => impl_BookOk n b0)
def impl_BookOk_ent (n : Nat) : Ent T := ⟨46, 37, [], Bool, impl_BookOk_D n, impl_BookOk_enc⟩
def impl_Book_at_1_D (n : Nat) (r0 : List (A T)) : Option Bool := ocons r0 fun a0 r1 => ocons r1 fun a1 r2 => onil r2 (obind (argV (T := T) 64 a0) fun x0 => obind (argP (T := T) 3 a1) fun a1 => impl_Book_at_1 n x0 a1)
def impl_Book_at_1_ent (n : Nat) : Ent T := ⟨68, 38, [], Bool, impl_Book_at_1_D n, impl_Book_at_1_enc⟩
def slices_IndexFunc_impl_Bill_impl_Bill__impl_Book_at_1_D (n : Nat) (ar : List (A T)) : Option Int := match ar with
  | [a0, .fn _ [k1_0]] => obind (argV (T := T) 29 a0) fun s0 => obind (argP (T := T) 3 k1_0) fun f1c0 => slices_IndexFunc_impl_Bill_impl_Bill__impl_Book_at_1 n s0 f1c0
  | _ => none
def slices_IndexFunc_impl_Bill_impl_Bill__impl_Book_at_1_ent (n : Nat) : Ent T := ⟨67, 39, [68], Int, slices_IndexFunc_impl_Bill_impl_Bill__impl_Book_at_1_D n, slices_IndexFunc_impl_Bill_impl_Bill__impl_Book_at_1_enc⟩
def impl_Book_at_D (n : Nat) (r0 : List (A T)) : Option Int := ocons r0 fun a0 r1 => ocons r1 fun a1 r2 => onil r2 (obind (argV (T := T) 31 a0) fun b0 => obind (argV (T := T) 3 a1) fun id1 => impl_Book_at n b0 id1)
def impl_Book_at_ent (n : Nat) : Ent T := ⟨49, 40, [], Int, impl_Book_at_D n, impl_Book_at_enc⟩
def impl_heldBy_D (n : Nat) (r0 : List (A T)) : Option (List ByteArray) := ocons r0 fun a0 r1 => ocons r1 fun a1 r2 => onil r2 (obind (argV (T := T) 9 a0) fun who0 => obind (argV (T := T) 3 a1) fun many1 => impl_heldBy n who0 many1)
def impl_heldBy_ent (n : Nat) : Ent T := ⟨50, 41, [], List ByteArray, impl_heldBy_D n, impl_heldBy_enc⟩
def impl_DoBill_1_D (n : Nat) (r0 : List (A T)) : Option Int := ocons r0 fun a0 r1 => ocons r1 fun a1 r2 => onil r2 (obind (argV (T := T) 64 a0) fun a0 => obind (argV (T := T) 64 a1) fun b1 => impl_DoBill_1 n a0 b1)
def impl_DoBill_1_ent (n : Nat) : Ent T := ⟨52, 42, [], Int, impl_DoBill_1_D n, impl_DoBill_1_enc⟩
def slices_SortFunc_impl_Bill_impl_Bill__impl_DoBill_1_D (n : Nat) (ar : List (A T)) : Option (List SBill) := match ar with
  | [a0, .fn _ []] => obind (argV (T := T) 29 a0) fun l0 => slices_SortFunc_impl_Bill_impl_Bill__impl_DoBill_1 n l0
  | _ => none
def slices_SortFunc_impl_Bill_impl_Bill__impl_DoBill_1_ent (n : Nat) : Ent T := ⟨51, 43, [52], List SBill, slices_SortFunc_impl_Bill_impl_Bill__impl_DoBill_1_D n, slices_SortFunc_impl_Bill_impl_Bill__impl_DoBill_1_enc⟩
def slices_Index_int_int_D (n : Nat) (r0 : List (A T)) : Option Int := ocons r0 fun a0 r1 => ocons r1 fun a1 r2 => onil r2 (obind (argV (T := T) 23 a0) fun s0 => obind (argV (T := T) 3 a1) fun v1 => slices_Index_int_int n s0 v1)
def slices_Index_int_int_ent (n : Nat) : Ent T := ⟨71, 44, [], Int, slices_Index_int_int_D n, slices_Index_int_int_enc⟩
def slices_Contains_int_int_D (n : Nat) (r0 : List (A T)) : Option Bool := ocons r0 fun a0 r1 => ocons r1 fun a1 r2 => onil r2 (obind (argV (T := T) 23 a0) fun s0 => obind (argV (T := T) 3 a1) fun v1 => slices_Contains_int_int n s0 v1)
def slices_Contains_int_int_ent (n : Nat) : Ent T := ⟨53, 45, [], Bool, slices_Contains_int_int_D n, slices_Contains_int_int_enc⟩
def slices_Index_string_string_D (n : Nat) (r0 : List (A T)) : Option Int := ocons r0 fun a0 r1 => ocons r1 fun a1 r2 => onil r2 (obind (argV (T := T) 61 a0) fun s0 => obind (argV (T := T) 9 a1) fun v1 => slices_Index_string_string n s0 v1)
def slices_Index_string_string_ent (n : Nat) : Ent T := ⟨72, 46, [], Int, slices_Index_string_string_D n, slices_Index_string_string_enc⟩
def slices_Contains_string_string_D (n : Nat) (r0 : List (A T)) : Option Bool := ocons r0 fun a0 r1 => ocons r1 fun a1 r2 => onil r2 (obind (argV (T := T) 61 a0) fun s0 => obind (argV (T := T) 9 a1) fun v1 => slices_Contains_string_string n s0 v1)
def slices_Contains_string_string_ent (n : Nat) : Ent T := ⟨54, 47, [], Bool, slices_Contains_string_string_D n, slices_Contains_string_string_enc⟩
def slices_Sort_int_int_D (n : Nat) (r0 : List (A T)) : Option (List Int) := ocons r0 fun a0 r1 => onil r1 (obind (argV (T := T) 23 a0) fun l0 => slices_Sort_int_int n l0)
def slices_Sort_int_int_ent (n : Nat) : Ent T := ⟨57, 48, [], List Int, slices_Sort_int_int_D n, slices_Sort_int_int_enc⟩
def impl_DoBill_2_D (n : Nat) (r0 : List (A T)) : Option Bool := ocons r0 fun a0 r1 => ocons r1 fun a1 r2 => onil r2 (obind (argV (T := T) 9 a0) fun s0 => obind (argP (T := T) 51 a1) fun a1 => impl_DoBill_2 n s0 a1)
def impl_DoBill_2_ent (n : Nat) : Ent T := ⟨56, 49, [], Bool, impl_DoBill_2_D n, impl_DoBill_2_enc⟩
def slices_IndexFunc_string_string__impl_DoBill_2_D (n : Nat) (ar : List (A T)) : Option Int := match ar with
  | [a0, .fn _ [k1_0]] => obind (argV (T := T) 61 a0) fun s0 => obind (argP (T := T) 51 k1_0) fun f1c0 => slices_IndexFunc_string_string__impl_DoBill_2 n s0 f1c0
  | _ => none
def slices_IndexFunc_string_string__impl_DoBill_2_ent (n : Nat) : Ent T := ⟨73, 50, [56], Int, slices_IndexFunc_string_string__impl_DoBill_2_D n, slices_IndexFunc_string_string__impl_DoBill_2_enc⟩
def slices_ContainsFunc_string_string__impl_DoBill_2_D (n : Nat) (ar : List (A T)) : Option Bool := match ar with
  | [a0, .fn _ [k1_0]] => obind (argV (T := T) 61 a0) fun s0 => obind (argP (T := T) 51 k1_0) fun f1c0 => slices_ContainsFunc_string_string__impl_DoBill_2 n s0 f1c0
  | _ => none
def slices_ContainsFunc_string_string__impl_DoBill_2_ent (n : Nat) : Ent T := ⟨55, 51, [56], Bool, slices_ContainsFunc_string_string__impl_DoBill_2_D n, slices_ContainsFunc_string_string__impl_DoBill_2_enc⟩
def impl_DoBill_D (n : Nat) (r0 : List (A T)) : Option (SBook × Int) := ocons r0 fun a0 r1 => ocons r1 fun a1 r2 => onil r2 (obind (argV (T := T) 31 a0) fun b0 => obind (argV (T := T) 51 a1) fun op1 => impl_DoBill n b0 op1)
def impl_DoBill_ent (n : Nat) : Ent T := ⟨27, 52, [], SBook × Int, impl_DoBill_D n, impl_DoBill_enc⟩
def impl_RunBills_D (n : Nat) (r0 : List (A T)) : Option (SBook × List Int) := ocons r0 fun a0 r1 => ocons r1 fun a1 r2 => onil r2 (obind (argV (T := T) 31 a0) fun b0 => obind (argV (T := T) 35 a1) fun ops1 => impl_RunBills n b0 ops1)
def impl_RunBills_ent (n : Nat) : Ent T := ⟨9, 53, [], SBook × List Int, impl_RunBills_D n, impl_RunBills_enc⟩
def laws_eqStringS_D (n : Nat) (r0 : List (A T)) : Option Bool := ocons r0 fun a0 r1 => ocons r1 fun a1 r2 => onil r2 (obind (argV (T := T) 61 a0) fun a0 => obind (argV (T := T) 61 a1) fun b1 => laws_eqStringS n a0 b1)
def laws_eqStringS_ent (n : Nat) : Ent T := ⟨75, 54, [], Bool, laws_eqStringS_D n, laws_eqStringS_enc⟩
def laws_eqBill_D (n : Nat) (r0 : List (A T)) : Option Bool := ocons r0 fun a0 r1 => ocons r1 fun a1 r2 => onil r2 (obind (argV (T := T) 64 a0) fun a0 => obind (argV (T := T) 64 a1) fun b1 => laws_eqBill n a0 b1)
def laws_eqBill_ent (n : Nat) : Ent T := ⟨58, 55, [], Bool, laws_eqBill_D n, laws_eqBill_enc⟩
def laws_eqBillS_D (n : Nat) (r0 : List (A T)) : Option Bool := ocons r0 fun a0 r1 => ocons r1 fun a1 r2 => onil r2 (obind (argV (T := T) 29 a0) fun a0 => obind (argV (T := T) 29 a1) fun b1 => laws_eqBillS n a0 b1)
def laws_eqBillS_ent (n : Nat) : Ent T := ⟨29, 56, [], Bool, laws_eqBillS_D n, laws_eqBillS_enc⟩
def laws_eqIntS_D (n : Nat) (r0 : List (A T)) : Option Bool := ocons r0 fun a0 r1 => ocons r1 fun a1 r2 => onil r2 (obind (argV (T := T) 23 a0) fun a0 => obind (argV (T := T) 23 a1) fun b1 => laws_eqIntS n a0 b1)
def laws_eqIntS_ent (n : Nat) : Ent T := ⟨11, 57, [], Bool, laws_eqIntS_D n, laws_eqIntS_enc⟩
def laws_eqBook_D (n : Nat) (r0 : List (A T)) : Option Bool := ocons r0 fun a0 r1 => ocons r1 fun a1 r2 => onil r2 (obind (argV (T := T) 31 a0) fun a0 => obind (argV (T := T) 31 a1) fun b1 => laws_eqBook n a0 b1)
def laws_eqBook_ent (n : Nat) : Ent T := ⟨10, 58, [], Bool, laws_eqBook_D n, laws_eqBook_enc⟩
def laws_eqBillOp_D (n : Nat) (r0 : List (A T)) : Option Bool := ocons r0 fun a0 r1 => ocons r1 fun a1 r2 => onil r2 (obind (argV (T := T) 51 a0) fun a0 => obind (argV (T := T) 51 a1) fun b1 => laws_eqBillOp n a0 b1)
def laws_eqBillOp_ent (n : Nat) : Ent T := ⟨30, 59, [], Bool, laws_eqBillOp_D n, laws_eqBillOp_enc⟩
def laws_eqBillOpS_D (n : Nat) (r0 : List (A T)) : Option Bool := ocons r0 fun a0 r1 => ocons r1 fun a1 r2 => onil r2 (obind (argV (T := T) 35 a0) fun a0 => obind (argV (T := T) 35 a1) fun b1 => laws_eqBillOpS n a0 b1)
def laws_eqBillOpS_ent (n : Nat) : Ent T := ⟨12, 60, [], Bool, laws_eqBillOpS_D n, laws_eqBillOpS_enc⟩
def laws_markText_D (n : Nat) (r0 : List (A T)) : Option ByteArray := ocons r0 fun a0 r1 => onil r1 (obind (argV (T := T) 3 a0) fun k0 => laws_markText n k0)
def laws_markText_ent (n : Nat) : Ent T := ⟨32, 61, [], ByteArray, laws_markText_D n, laws_markText_enc⟩
def laws_markStringS_D (n : Nat) (r0 : List (A T)) : Option (Int × List ByteArray) := ocons r0 fun a0 r1 => ocons r1 fun a1 r2 => onil r2 (obind (argV (T := T) 61 a0) fun a0 => obind (argV (T := T) 3 a1) fun k1 => laws_markStringS n a0 k1)
def laws_markStringS_ent (n : Nat) : Ent T := ⟨59, 62, [], Int × List ByteArray, laws_markStringS_D n, laws_markStringS_enc⟩
def laws_markBillS_D (n : Nat) (r0 : List (A T)) : Option (Int × List SBill) := ocons r0 fun a0 r1 => ocons r1 fun a1 r2 => onil r2 (obind (argV (T := T) 29 a0) fun a0 => obind (argV (T := T) 3 a1) fun k1 => laws_markBillS n a0 k1)
def laws_markBillS_ent (n : Nat) : Ent T := ⟨31, 63, [], Int × List SBill, laws_markBillS_D n, laws_markBillS_enc⟩
def laws_markIntS_D (n : Nat) (r0 : List (A T)) : Option (Int × List Int) := ocons r0 fun a0 r1 => ocons r1 fun a1 r2 => onil r2 (obind (argV (T := T) 23 a0) fun a0 => obind (argV (T := T) 3 a1) fun k1 => laws_markIntS n a0 k1)
def laws_markIntS_ent (n : Nat) : Ent T := ⟨15, 64, [], Int × List Int, laws_markIntS_D n, laws_markIntS_enc⟩
def laws_markBook_D (n : Nat) (r0 : List (A T)) : Option (Int × List SBill × List Int) := ocons r0 fun a0 r1 => ocons r1 fun a1 r2 => onil r2 (obind (argV (T := T) 31 a0) fun a0 => obind (argV (T := T) 3 a1) fun k1 => laws_markBook n a0 k1)
def laws_markBook_ent (n : Nat) : Ent T := ⟨13, 65, [], Int × List SBill × List Int, laws_markBook_D n, laws_markBook_enc⟩
def laws_markBillOpS_D (n : Nat) (r0 : List (A T)) : Option (Int × List SBillOp) := ocons r0 fun a0 r1 => ocons r1 fun a1 r2 => onil r2 (obind (argV (T := T) 35 a0) fun a0 => obind (argV (T := T) 3 a1) fun k1 => laws_markBillOpS n a0 k1)
def laws_markBillOpS_ent (n : Nat) : Ent T := ⟨14, 66, [], Int × List SBillOp, laws_markBillOpS_D n, laws_markBillOpS_enc⟩
def laws_heldStringS_D (n : Nat) (r0 : List (A T)) : Option Int := ocons r0 fun a0 r1 => ocons r1 fun a1 r2 => onil r2 (obind (argV (T := T) 61 a0) fun a0 => obind (argV (T := T) 3 a1) fun k1 => laws_heldStringS n a0 k1)
def laws_heldStringS_ent (n : Nat) : Ent T := ⟨60, 67, [], Int, laws_heldStringS_D n, laws_heldStringS_enc⟩
def laws_heldBillS_D (n : Nat) (r0 : List (A T)) : Option Int := ocons r0 fun a0 r1 => ocons r1 fun a1 r2 => onil r2 (obind (argV (T := T) 29 a0) fun a0 => obind (argV (T := T) 3 a1) fun k1 => laws_heldBillS n a0 k1)
def laws_heldBillS_ent (n : Nat) : Ent T := ⟨33, 68, [], Int, laws_heldBillS_D n, laws_heldBillS_enc⟩
def laws_heldIntS_D (n : Nat) (r0 : List (A T)) : Option Int := ocons r0 fun a0 r1 => ocons r1 fun a1 r2 => onil r2 (obind (argV (T := T) 23 a0) fun a0 => obind (argV (T := T) 3 a1) fun k1 => laws_heldIntS n a0 k1)
def laws_heldIntS_ent (n : Nat) : Ent T := ⟨17, 69, [], Int, laws_heldIntS_D n, laws_heldIntS_enc⟩
def laws_heldBook_D (n : Nat) (r0 : List (A T)) : Option Int := ocons r0 fun a0 r1 => ocons r1 fun a1 r2 => onil r2 (obind (argV (T := T) 31 a0) fun a0 => obind (argV (T := T) 3 a1) fun k1 => laws_heldBook n a0 k1)
def laws_heldBook_ent (n : Nat) : Ent T := ⟨16, 70, [], Int, laws_heldBook_D n, laws_heldBook_enc⟩
def laws_FnExactRunBills_D (n : Nat) (r0 : List (A T)) : Option Bool := ocons r0 fun a0 r1 => ocons r1 fun a1 r2 => onil r2 (obind (argV (T := T) 25 a0) fun aB0 => obind (argV (T := T) 26 a1) fun aOps1 => laws_FnExactRunBills n aB0 aOps1)
def laws_FnExactRunBills_ent (n : Nat) : Ent T := ⟨3, 71, [], Bool, laws_FnExactRunBills_D n, laws_FnExactRunBills_enc⟩
def ents (n : Nat) : List (Ent T) := [laws_szStringS_ent n, laws_szBill_ent n, laws_szBillS_ent n, laws_szIntS_ent n, laws_szBook_ent n, laws_szBillOp_ent n, laws_szBillOpS_ent n, laws_toStringS_ent n, laws_toBill_ent n, laws_toBillS_ent n, laws_toIntS_ent n, laws_toBook_ent n, laws_toBillOp_ent n, laws_toBillOpS_ent n, spec_l14Copy_ent n, spec_l1In_ent n, spec_l1Name_ent n, spec_l14Find_ent n, spec_BookOk_ent n, spec_l14Op_ent n, spec_l14Made_ent n, spec_l9Has_ent n, spec_l14Holds_ent n, spec_l14Do_ent n, spec_DoBill_ent n, spec_RunBills_ent n, impl_own_impl_Bill_ent n, impl_own_string_ent n, impl_own_int_ent n, impl_Book_own_ent n, impl_nameOk_ent n, impl_in_ent n, impl_idRight_ent n, impl_emptyOrName_ent n, impl_BookOk_1_ent n, slices_IndexFunc_string_string__impl_BookOk_1_ent n, slices_ContainsFunc_string_string__impl_BookOk_1_ent n, impl_BookOk_ent n, impl_Book_at_1_ent n, slices_IndexFunc_impl_Bill_impl_Bill__impl_Book_at_1_ent n, impl_Book_at_ent n, impl_heldBy_ent n, impl_DoBill_1_ent n, slices_SortFunc_impl_Bill_impl_Bill__impl_DoBill_1_ent n, slices_Index_int_int_ent n, slices_Contains_int_int_ent n, slices_Index_string_string_ent n, slices_Contains_string_string_ent n, slices_Sort_int_int_ent n, impl_DoBill_2_ent n, slices_IndexFunc_string_string__impl_DoBill_2_ent n, slices_ContainsFunc_string_string__impl_DoBill_2_ent n, impl_DoBill_ent n, impl_RunBills_ent n, laws_eqStringS_ent n, laws_eqBill_ent n, laws_eqBillS_ent n, laws_eqIntS_ent n, laws_eqBook_ent n, laws_eqBillOp_ent n, laws_eqBillOpS_ent n, laws_markText_ent n, laws_markStringS_ent n, laws_markBillS_ent n, laws_markIntS_ent n, laws_markBook_ent n, laws_markBillOpS_ent n, laws_heldStringS_ent n, laws_heldBillS_ent n, laws_heldIntS_ent n, laws_heldBook_ent n, laws_FnExactRunBills_ent n]
abbrev Phi (n i : Nat) {R : Type} (f : Nat) (ar : List (A T)) (K : Res T → Option R) : Option R := PhiE (ents n) i f ar K
theorem mixed : Tryz.prog.follows .mixedOrders = true := by kernel_rfl
noncomputable def laws_szStringS_code : Code := match Tryz.f61.body with | some c => c | none => .skip
def laws_szStringS_5_sv : List Sv := [.one (.arr 9), .one (.int .i64), .one (.int .i64)]
def laws_szStringS_5_so : List So := []
def laws_szStringS_5_emb (c : List ByteArray) (x : Int × Int) : EVs T laws_szStringS_5_sv × EOs T laws_szStringS_5_so := ((c, x.1, x.2, ()), ())
def laws_szStringS_5_prj (y : EVs T laws_szStringS_5_sv × EOs T laws_szStringS_5_so) : List ByteArray × (Int × Int) := ((y.1.1), (y.1.2.1, y.1.2.2.1))
def laws_szStringS_5_b (n : Nat) {R : Type} (K : Ex → Sm.St T → Option R) (c : List ByteArray) (x : Int × Int) (J : (Int × Int) → Option R) : Option R :=
  laws_szStringS_L5 n (fun (y0 : Int) => K (.exit 0) (stOf (T := T) [1] [] [.one (.int .i64)] [] (y0, ()) ())) (fun (y0 : Int) => K .ret (stOf (T := T) [4] [] [.one (.int .i64)] [] (y0, ()) ())) (fun z0 z1 => J (z0, z1)) c x.1 x.2
def laws_szStringS_5_sp (n : Nat) : LSpec T := mkSpec T ⟨[], [0, 1, 5], []⟩ laws_szStringS_5_sv laws_szStringS_5_so (List ByteArray) (Int × Int) laws_szStringS_5_emb laws_szStringS_5_prj (laws_szStringS_5_b n)
noncomputable def laws_szStringS_5_c : Code := ((loopCodes laws_szStringS_code)[0]?).getD .skip
def laws_szStringS_ann : Ann := fun id => bif Nat.beq id 3000005 then some ⟨[], [1], []⟩ else bif Nat.beq id 2000005 then some ⟨[], [4], []⟩ else none
def laws_szStringS_Ls (n : Nat) : Nat → Option (LSpec T) := fun id => bif Nat.beq id 5 then some (laws_szStringS_5_sp n) else none
theorem laws_szStringS_5_le (n : Nat) : LoopEq (T := T) (Phi n 0) (laws_szStringS_Ls n) laws_szStringS_ann n laws_szStringS_5_c (laws_szStringS_5_sp n) := ⟨mkSpec_dec (fun y => rfl), fun c x => by kernel_rfl, fun K J c x => by kernel_rfl⟩
theorem laws_szStringS_tie (n : Nat) (a0 : List ByteArray) (left1 : Int) : evF (T := T) (Phi n 0) (laws_szStringS_Ls n) laws_szStringS_ann n Tryz.f61 (sg 61) [vA T 61 a0, vA T 3 left1] laws_szStringS_dec = laws_szStringS n a0 left1 := by kernel_rfl
theorem laws_szStringS_lo (n : Nat) : LoopsOk (T := T) (Phi n 0) (laws_szStringS_Ls n) laws_szStringS_ann n laws_szStringS_code := loopsOk_all (cs := [laws_szStringS_5_c]) (by kernel_rfl) ⟨⟨_, by kernel_rfl, laws_szStringS_5_le n⟩, trivial⟩
theorem laws_szStringS_ok (n : Nat) : EntOk Tryz.prog (ents n) (laws_szStringS_ent n) := by
  intro hs ar y hg h
  replace h : laws_szStringS_D n ar = some y := h
  unfold laws_szStringS_D at h
  replace h := ocons_some h
  obtain ⟨a0, r0, rfl, h⟩ := h
  replace h := ocons_some h
  obtain ⟨a1, r1, rfl, h⟩ := h
  replace h := onil_some h
  obtain ⟨rfl, h⟩ := h
  obtain ⟨a0, qh0, h⟩ := obind_some h
  obtain ⟨left1, qh1, h⟩ := obind_some h
  rw [argV_eq ok qh0, argV_eq ok qh1]
  exact call_of (phiE_nat _ _) hs ok mixed Tryz.func61 (c := laws_szStringS_code) (by kernel_rfl) (laws_szStringS_lo n) (by kernel_rfl) (by kernel_rfl) (by kernel_rfl) laws_szStringS_de ((laws_szStringS_tie n a0 left1).trans h)
noncomputable def laws_szBill_code : Code := match Tryz.f34.body with | some c => c | none => .skip
def laws_szBill_ann : Ann := fun id => none
def laws_szBill_Ls (n : Nat) : Nat → Option (LSpec T) := fun id => none
theorem laws_szBill_tie (n : Nat) (a0 : SBill) (left1 : Int) : evF (T := T) (Phi n 1) (laws_szBill_Ls n) laws_szBill_ann n Tryz.f34 (sg 34) [vA T 63 a0, vA T 3 left1] laws_szBill_dec = laws_szBill n a0 left1 := by kernel_rfl
theorem laws_szBill_lo (n : Nat) : LoopsOk (T := T) (Phi n 1) (laws_szBill_Ls n) laws_szBill_ann n laws_szBill_code := loopsOk_all (cs := []) (by kernel_rfl) trivial
theorem laws_szBill_ok (n : Nat) : EntOk Tryz.prog (ents n) (laws_szBill_ent n) := by
  intro hs ar y hg h
  replace h : laws_szBill_D n ar = some y := h
  unfold laws_szBill_D at h
  replace h := ocons_some h
  obtain ⟨a0, r0, rfl, h⟩ := h
  replace h := ocons_some h
  obtain ⟨a1, r1, rfl, h⟩ := h
  replace h := onil_some h
  obtain ⟨rfl, h⟩ := h
  obtain ⟨a0, qh0, h⟩ := obind_some h
  obtain ⟨left1, qh1, h⟩ := obind_some h
  rw [argV_eq ok qh0, argV_eq ok qh1]
  exact call_of (phiE_nat _ _) hs ok mixed Tryz.func34 (c := laws_szBill_code) (by kernel_rfl) (laws_szBill_lo n) (by kernel_rfl) (by kernel_rfl) (by kernel_rfl) laws_szBill_de ((laws_szBill_tie n a0 left1).trans h)
noncomputable def laws_szBillS_code : Code := match Tryz.f18.body with | some c => c | none => .skip
def laws_szBillS_5_sv : List Sv := [.one (.arr 63), .one (.int .i64), .one (.int .i64)]
def laws_szBillS_5_so : List So := []
def laws_szBillS_5_emb (c : List SBill) (x : Int × Int) : EVs T laws_szBillS_5_sv × EOs T laws_szBillS_5_so := ((c, x.1, x.2, ()), ())
def laws_szBillS_5_prj (y : EVs T laws_szBillS_5_sv × EOs T laws_szBillS_5_so) : List SBill × (Int × Int) := ((y.1.1), (y.1.2.1, y.1.2.2.1))
def laws_szBillS_5_b (n : Nat) {R : Type} (K : Ex → Sm.St T → Option R) (c : List SBill) (x : Int × Int) (J : (Int × Int) → Option R) : Option R :=
  laws_szBillS_L5 n (fun (y0 : Int) => K (.exit 0) (stOf (T := T) [1] [] [.one (.int .i64)] [] (y0, ()) ())) (fun (y0 : Int) => K .ret (stOf (T := T) [4] [] [.one (.int .i64)] [] (y0, ()) ())) (fun z0 z1 => J (z0, z1)) c x.1 x.2
def laws_szBillS_5_sp (n : Nat) : LSpec T := mkSpec T ⟨[], [0, 1, 5], []⟩ laws_szBillS_5_sv laws_szBillS_5_so (List SBill) (Int × Int) laws_szBillS_5_emb laws_szBillS_5_prj (laws_szBillS_5_b n)
noncomputable def laws_szBillS_5_c : Code := ((loopCodes laws_szBillS_code)[0]?).getD .skip
def laws_szBillS_ann : Ann := fun id => bif Nat.beq id 3000005 then some ⟨[], [1], []⟩ else bif Nat.beq id 2000005 then some ⟨[], [4], []⟩ else none
def laws_szBillS_Ls (n : Nat) : Nat → Option (LSpec T) := fun id => bif Nat.beq id 5 then some (laws_szBillS_5_sp n) else none
theorem laws_szBillS_5_le (n : Nat) : LoopEq (T := T) (Phi n 2) (laws_szBillS_Ls n) laws_szBillS_ann n laws_szBillS_5_c (laws_szBillS_5_sp n) := ⟨mkSpec_dec (fun y => rfl), fun c x => by kernel_rfl, fun K J c x => by kernel_rfl⟩
theorem laws_szBillS_tie (n : Nat) (a0 : List SBill) (left1 : Int) : evF (T := T) (Phi n 2) (laws_szBillS_Ls n) laws_szBillS_ann n Tryz.f18 (sg 18) [vA T 22 a0, vA T 3 left1] laws_szBillS_dec = laws_szBillS n a0 left1 := by kernel_rfl
theorem laws_szBillS_lo (n : Nat) : LoopsOk (T := T) (Phi n 2) (laws_szBillS_Ls n) laws_szBillS_ann n laws_szBillS_code := loopsOk_all (cs := [laws_szBillS_5_c]) (by kernel_rfl) ⟨⟨_, by kernel_rfl, laws_szBillS_5_le n⟩, trivial⟩
theorem laws_szBillS_ok (n : Nat) : EntOk Tryz.prog (ents n) (laws_szBillS_ent n) := by
  intro hs ar y hg h
  replace h : laws_szBillS_D n ar = some y := h
  unfold laws_szBillS_D at h
  replace h := ocons_some h
  obtain ⟨a0, r0, rfl, h⟩ := h
  replace h := ocons_some h
  obtain ⟨a1, r1, rfl, h⟩ := h
  replace h := onil_some h
  obtain ⟨rfl, h⟩ := h
  obtain ⟨a0, qh0, h⟩ := obind_some h
  obtain ⟨left1, qh1, h⟩ := obind_some h
  rw [argV_eq ok qh0, argV_eq ok qh1]
  exact call_of (phiE_nat _ _) hs ok mixed Tryz.func18 (c := laws_szBillS_code) (by kernel_rfl) (laws_szBillS_lo n) (by kernel_rfl) (by kernel_rfl) (by kernel_rfl) laws_szBillS_de ((laws_szBillS_tie n a0 left1).trans h)
noncomputable def laws_szIntS_code : Code := match Tryz.f19.body with | some c => c | none => .skip
def laws_szIntS_ann : Ann := fun id => none
def laws_szIntS_Ls (n : Nat) : Nat → Option (LSpec T) := fun id => none
theorem laws_szIntS_tie (n : Nat) (a0 : List Int) (left1 : Int) : evF (T := T) (Phi n 3) (laws_szIntS_Ls n) laws_szIntS_ann n Tryz.f19 (sg 19) [vA T 23 a0, vA T 3 left1] laws_szIntS_dec = laws_szIntS n a0 left1 := by kernel_rfl
theorem laws_szIntS_lo (n : Nat) : LoopsOk (T := T) (Phi n 3) (laws_szIntS_Ls n) laws_szIntS_ann n laws_szIntS_code := loopsOk_all (cs := []) (by kernel_rfl) trivial
theorem laws_szIntS_ok (n : Nat) : EntOk Tryz.prog (ents n) (laws_szIntS_ent n) := by
  intro hs ar y hg h
  replace h : laws_szIntS_D n ar = some y := h
  unfold laws_szIntS_D at h
  replace h := ocons_some h
  obtain ⟨a0, r0, rfl, h⟩ := h
  replace h := ocons_some h
  obtain ⟨a1, r1, rfl, h⟩ := h
  replace h := onil_some h
  obtain ⟨rfl, h⟩ := h
  obtain ⟨a0, qh0, h⟩ := obind_some h
  obtain ⟨left1, qh1, h⟩ := obind_some h
  rw [argV_eq ok qh0, argV_eq ok qh1]
  exact call_of (phiE_nat _ _) hs ok mixed Tryz.func19 (c := laws_szIntS_code) (by kernel_rfl) (laws_szIntS_lo n) (by kernel_rfl) (by kernel_rfl) (by kernel_rfl) laws_szIntS_de ((laws_szIntS_tie n a0 left1).trans h)
noncomputable def laws_szBook_code : Code := match Tryz.f4.body with | some c => c | none => .skip
def laws_szBook_ann : Ann := fun id => none
def laws_szBook_Ls (n : Nat) : Nat → Option (LSpec T) := fun id => none
theorem laws_szBook_tie (n : Nat) (a0 : SBook) (left1 : Int) : evF (T := T) (Phi n 4) (laws_szBook_Ls n) laws_szBook_ann n Tryz.f4 (sg 4) [vA T 25 a0, vA T 3 left1] laws_szBook_dec = laws_szBook n a0 left1 := by kernel_rfl
theorem laws_szBook_lo (n : Nat) : LoopsOk (T := T) (Phi n 4) (laws_szBook_Ls n) laws_szBook_ann n laws_szBook_code := loopsOk_all (cs := []) (by kernel_rfl) trivial
theorem laws_szBook_ok (n : Nat) : EntOk Tryz.prog (ents n) (laws_szBook_ent n) := by
  intro hs ar y hg h
  replace h : laws_szBook_D n ar = some y := h
  unfold laws_szBook_D at h
  replace h := ocons_some h
  obtain ⟨a0, r0, rfl, h⟩ := h
  replace h := ocons_some h
  obtain ⟨a1, r1, rfl, h⟩ := h
  replace h := onil_some h
  obtain ⟨rfl, h⟩ := h
  obtain ⟨a0, qh0, h⟩ := obind_some h
  obtain ⟨left1, qh1, h⟩ := obind_some h
  rw [argV_eq ok qh0, argV_eq ok qh1]
  exact call_of (phiE_nat _ _) hs ok mixed Tryz.func4 (c := laws_szBook_code) (by kernel_rfl) (laws_szBook_lo n) (by kernel_rfl) (by kernel_rfl) (by kernel_rfl) laws_szBook_de ((laws_szBook_tie n a0 left1).trans h)
noncomputable def laws_szBillOp_code : Code := match Tryz.f20.body with | some c => c | none => .skip
def laws_szBillOp_ann : Ann := fun id => none
def laws_szBillOp_Ls (n : Nat) : Nat → Option (LSpec T) := fun id => none
theorem laws_szBillOp_tie (n : Nat) (a0 : SBillOp) (left1 : Int) : evF (T := T) (Phi n 5) (laws_szBillOp_Ls n) laws_szBillOp_ann n Tryz.f20 (sg 20) [vA T 47 a0, vA T 3 left1] laws_szBillOp_dec = laws_szBillOp n a0 left1 := by kernel_rfl
theorem laws_szBillOp_lo (n : Nat) : LoopsOk (T := T) (Phi n 5) (laws_szBillOp_Ls n) laws_szBillOp_ann n laws_szBillOp_code := loopsOk_all (cs := []) (by kernel_rfl) trivial
theorem laws_szBillOp_ok (n : Nat) : EntOk Tryz.prog (ents n) (laws_szBillOp_ent n) := by
  intro hs ar y hg h
  replace h : laws_szBillOp_D n ar = some y := h
  unfold laws_szBillOp_D at h
  replace h := ocons_some h
  obtain ⟨a0, r0, rfl, h⟩ := h
  replace h := ocons_some h
  obtain ⟨a1, r1, rfl, h⟩ := h
  replace h := onil_some h
  obtain ⟨rfl, h⟩ := h
  obtain ⟨a0, qh0, h⟩ := obind_some h
  obtain ⟨left1, qh1, h⟩ := obind_some h
  rw [argV_eq ok qh0, argV_eq ok qh1]
  exact call_of (phiE_nat _ _) hs ok mixed Tryz.func20 (c := laws_szBillOp_code) (by kernel_rfl) (laws_szBillOp_lo n) (by kernel_rfl) (by kernel_rfl) (by kernel_rfl) laws_szBillOp_de ((laws_szBillOp_tie n a0 left1).trans h)
noncomputable def laws_szBillOpS_code : Code := match Tryz.f5.body with | some c => c | none => .skip
def laws_szBillOpS_5_sv : List Sv := [.one (.arr 47), .one (.int .i64), .one (.int .i64)]
def laws_szBillOpS_5_so : List So := []
def laws_szBillOpS_5_emb (c : List SBillOp) (x : Int × Int) : EVs T laws_szBillOpS_5_sv × EOs T laws_szBillOpS_5_so := ((c, x.1, x.2, ()), ())
def laws_szBillOpS_5_prj (y : EVs T laws_szBillOpS_5_sv × EOs T laws_szBillOpS_5_so) : List SBillOp × (Int × Int) := ((y.1.1), (y.1.2.1, y.1.2.2.1))
def laws_szBillOpS_5_b (n : Nat) {R : Type} (K : Ex → Sm.St T → Option R) (c : List SBillOp) (x : Int × Int) (J : (Int × Int) → Option R) : Option R :=
  laws_szBillOpS_L5 n (fun (y0 : Int) => K (.exit 0) (stOf (T := T) [1] [] [.one (.int .i64)] [] (y0, ()) ())) (fun (y0 : Int) => K .ret (stOf (T := T) [4] [] [.one (.int .i64)] [] (y0, ()) ())) (fun z0 z1 => J (z0, z1)) c x.1 x.2
def laws_szBillOpS_5_sp (n : Nat) : LSpec T := mkSpec T ⟨[], [0, 1, 5], []⟩ laws_szBillOpS_5_sv laws_szBillOpS_5_so (List SBillOp) (Int × Int) laws_szBillOpS_5_emb laws_szBillOpS_5_prj (laws_szBillOpS_5_b n)
noncomputable def laws_szBillOpS_5_c : Code := ((loopCodes laws_szBillOpS_code)[0]?).getD .skip
def laws_szBillOpS_ann : Ann := fun id => bif Nat.beq id 3000005 then some ⟨[], [1], []⟩ else bif Nat.beq id 2000005 then some ⟨[], [4], []⟩ else none
def laws_szBillOpS_Ls (n : Nat) : Nat → Option (LSpec T) := fun id => bif Nat.beq id 5 then some (laws_szBillOpS_5_sp n) else none
theorem laws_szBillOpS_5_le (n : Nat) : LoopEq (T := T) (Phi n 6) (laws_szBillOpS_Ls n) laws_szBillOpS_ann n laws_szBillOpS_5_c (laws_szBillOpS_5_sp n) := ⟨mkSpec_dec (fun y => rfl), fun c x => by kernel_rfl, fun K J c x => by kernel_rfl⟩
theorem laws_szBillOpS_tie (n : Nat) (a0 : List SBillOp) (left1 : Int) : evF (T := T) (Phi n 6) (laws_szBillOpS_Ls n) laws_szBillOpS_ann n Tryz.f5 (sg 5) [vA T 26 a0, vA T 3 left1] laws_szBillOpS_dec = laws_szBillOpS n a0 left1 := by kernel_rfl
theorem laws_szBillOpS_lo (n : Nat) : LoopsOk (T := T) (Phi n 6) (laws_szBillOpS_Ls n) laws_szBillOpS_ann n laws_szBillOpS_code := loopsOk_all (cs := [laws_szBillOpS_5_c]) (by kernel_rfl) ⟨⟨_, by kernel_rfl, laws_szBillOpS_5_le n⟩, trivial⟩
theorem laws_szBillOpS_ok (n : Nat) : EntOk Tryz.prog (ents n) (laws_szBillOpS_ent n) := by
  intro hs ar y hg h
  replace h : laws_szBillOpS_D n ar = some y := h
  unfold laws_szBillOpS_D at h
  replace h := ocons_some h
  obtain ⟨a0, r0, rfl, h⟩ := h
  replace h := ocons_some h
  obtain ⟨a1, r1, rfl, h⟩ := h
  replace h := onil_some h
  obtain ⟨rfl, h⟩ := h
  obtain ⟨a0, qh0, h⟩ := obind_some h
  obtain ⟨left1, qh1, h⟩ := obind_some h
  rw [argV_eq ok qh0, argV_eq ok qh1]
  exact call_of (phiE_nat _ _) hs ok mixed Tryz.func5 (c := laws_szBillOpS_code) (by kernel_rfl) (laws_szBillOpS_lo n) (by kernel_rfl) (by kernel_rfl) (by kernel_rfl) laws_szBillOpS_de ((laws_szBillOpS_tie n a0 left1).trans h)
noncomputable def laws_toStringS_code : Code := match Tryz.f65.body with | some c => c | none => .skip
def laws_toStringS_3_sv : List Sv := [.one (.arr 9), .one (.own 3000000 9 false), .one (.int .i64)]
def laws_toStringS_3_so : List So := [.arr 9 false]
def laws_toStringS_3_emb (c : List ByteArray) (x : Int × List ByteArray) : EVs T laws_toStringS_3_sv × EOs T laws_toStringS_3_so := ((c, (), x.1, ()), (x.2, ()))
def laws_toStringS_3_prj (y : EVs T laws_toStringS_3_sv × EOs T laws_toStringS_3_so) : List ByteArray × (Int × List ByteArray) := ((y.1.1), (y.1.2.2.1, y.2.1))
def laws_toStringS_3_b (n : Nat) {R : Type} (K : Ex → Sm.St T → Option R) (c : List ByteArray) (x : Int × List ByteArray) (J : (Int × List ByteArray) → Option R) : Option R :=
  laws_toStringS_L3 n (fun (y0 : List ByteArray) => K (.exit 0) (stOf (T := T) [3] [3000000] [.one (.own 3000000 9 false)] [.arr 9 false] ((), ()) (y0, ()))) (fun z0 z1 => J (z0, z1)) c x.1 x.2
def laws_toStringS_3_sp (n : Nat) : LSpec T := mkSpec T ⟨[((.reg 3), 3000000, 9)], [0, 3, 4], [3000000]⟩ laws_toStringS_3_sv laws_toStringS_3_so (List ByteArray) (Int × List ByteArray) laws_toStringS_3_emb laws_toStringS_3_prj (laws_toStringS_3_b n)
noncomputable def laws_toStringS_3_c : Code := ((loopCodes laws_toStringS_code)[0]?).getD .skip
def laws_toStringS_ann : Ann := fun id => bif Nat.beq id 3000003 then some ⟨[((.reg 3), 3000000, 9)], [3], [3000000]⟩ else none
def laws_toStringS_Ls (n : Nat) : Nat → Option (LSpec T) := fun id => bif Nat.beq id 3 then some (laws_toStringS_3_sp n) else none
theorem laws_toStringS_3_le (n : Nat) : LoopEq (T := T) (Phi n 7) (laws_toStringS_Ls n) laws_toStringS_ann n laws_toStringS_3_c (laws_toStringS_3_sp n) := ⟨mkSpec_dec (fun y => rfl), fun c x => by kernel_rfl, fun K J c x => by kernel_rfl⟩
theorem laws_toStringS_tie (n : Nat) (a0 : List ByteArray) : evF (T := T) (Phi n 7) (laws_toStringS_Ls n) laws_toStringS_ann n Tryz.f65 (sg 65) [vA T 61 a0] laws_toStringS_dec = laws_toStringS n a0 := by kernel_rfl
theorem laws_toStringS_lo (n : Nat) : LoopsOk (T := T) (Phi n 7) (laws_toStringS_Ls n) laws_toStringS_ann n laws_toStringS_code := loopsOk_all (cs := [laws_toStringS_3_c]) (by kernel_rfl) ⟨⟨_, by kernel_rfl, laws_toStringS_3_le n⟩, trivial⟩
theorem laws_toStringS_ok (n : Nat) : EntOk Tryz.prog (ents n) (laws_toStringS_ent n) := by
  intro hs ar y hg h
  replace h : laws_toStringS_D n ar = some y := h
  unfold laws_toStringS_D at h
  replace h := ocons_some h
  obtain ⟨a0, r0, rfl, h⟩ := h
  replace h := onil_some h
  obtain ⟨rfl, h⟩ := h
  obtain ⟨a0, qh0, h⟩ := obind_some h
  rw [argV_eq ok qh0]
  exact call_of (phiE_nat _ _) hs ok mixed Tryz.func65 (c := laws_toStringS_code) (by kernel_rfl) (laws_toStringS_lo n) (by kernel_rfl) (by kernel_rfl) (by kernel_rfl) laws_toStringS_de ((laws_toStringS_tie n a0).trans h)
noncomputable def laws_toBill_code : Code := match Tryz.f41.body with | some c => c | none => .skip
def laws_toBill_ann : Ann := fun id => none
def laws_toBill_Ls (n : Nat) : Nat → Option (LSpec T) := fun id => none
theorem laws_toBill_tie (n : Nat) (a0 : SBill) : evF (T := T) (Phi n 8) (laws_toBill_Ls n) laws_toBill_ann n Tryz.f41 (sg 41) [vA T 63 a0] laws_toBill_dec = laws_toBill n a0 := by kernel_rfl
theorem laws_toBill_lo (n : Nat) : LoopsOk (T := T) (Phi n 8) (laws_toBill_Ls n) laws_toBill_ann n laws_toBill_code := loopsOk_all (cs := []) (by kernel_rfl) trivial
theorem laws_toBill_ok (n : Nat) : EntOk Tryz.prog (ents n) (laws_toBill_ent n) := by
  intro hs ar y hg h
  replace h : laws_toBill_D n ar = some y := h
  unfold laws_toBill_D at h
  replace h := ocons_some h
  obtain ⟨a0, r0, rfl, h⟩ := h
  replace h := onil_some h
  obtain ⟨rfl, h⟩ := h
  obtain ⟨a0, qh0, h⟩ := obind_some h
  rw [argV_eq ok qh0]
  exact call_of (phiE_nat _ _) hs ok mixed Tryz.func41 (c := laws_toBill_code) (by kernel_rfl) (laws_toBill_lo n) (by kernel_rfl) (by kernel_rfl) (by kernel_rfl) laws_toBill_de ((laws_toBill_tie n a0).trans h)
noncomputable def laws_toBillS_code : Code := match Tryz.f23.body with | some c => c | none => .skip
def laws_toBillS_3_sv : List Sv := [.one (.arr 63), .one (.own 3000000 64 false), .one (.int .i64)]
def laws_toBillS_3_so : List So := [.arr 64 false]
def laws_toBillS_3_emb (c : List SBill) (x : Int × List SBill) : EVs T laws_toBillS_3_sv × EOs T laws_toBillS_3_so := ((c, (), x.1, ()), (x.2, ()))
def laws_toBillS_3_prj (y : EVs T laws_toBillS_3_sv × EOs T laws_toBillS_3_so) : List SBill × (Int × List SBill) := ((y.1.1), (y.1.2.2.1, y.2.1))
def laws_toBillS_3_b (n : Nat) {R : Type} (K : Ex → Sm.St T → Option R) (c : List SBill) (x : Int × List SBill) (J : (Int × List SBill) → Option R) : Option R :=
  laws_toBillS_L3 n (fun (y0 : List SBill) => K (.exit 0) (stOf (T := T) [3] [3000000] [.one (.own 3000000 64 false)] [.arr 64 false] ((), ()) (y0, ()))) (fun z0 z1 => J (z0, z1)) c x.1 x.2
def laws_toBillS_3_sp (n : Nat) : LSpec T := mkSpec T ⟨[((.reg 3), 3000000, 64)], [0, 3, 4], [3000000]⟩ laws_toBillS_3_sv laws_toBillS_3_so (List SBill) (Int × List SBill) laws_toBillS_3_emb laws_toBillS_3_prj (laws_toBillS_3_b n)
noncomputable def laws_toBillS_3_c : Code := ((loopCodes laws_toBillS_code)[0]?).getD .skip
def laws_toBillS_ann : Ann := fun id => bif Nat.beq id 3000003 then some ⟨[((.reg 3), 3000000, 64)], [3], [3000000]⟩ else none
def laws_toBillS_Ls (n : Nat) : Nat → Option (LSpec T) := fun id => bif Nat.beq id 3 then some (laws_toBillS_3_sp n) else none
theorem laws_toBillS_3_le (n : Nat) : LoopEq (T := T) (Phi n 9) (laws_toBillS_Ls n) laws_toBillS_ann n laws_toBillS_3_c (laws_toBillS_3_sp n) := ⟨mkSpec_dec (fun y => rfl), fun c x => by kernel_rfl, fun K J c x => by kernel_rfl⟩
theorem laws_toBillS_tie (n : Nat) (a0 : List SBill) : evF (T := T) (Phi n 9) (laws_toBillS_Ls n) laws_toBillS_ann n Tryz.f23 (sg 23) [vA T 22 a0] laws_toBillS_dec = laws_toBillS n a0 := by kernel_rfl
theorem laws_toBillS_lo (n : Nat) : LoopsOk (T := T) (Phi n 9) (laws_toBillS_Ls n) laws_toBillS_ann n laws_toBillS_code := loopsOk_all (cs := [laws_toBillS_3_c]) (by kernel_rfl) ⟨⟨_, by kernel_rfl, laws_toBillS_3_le n⟩, trivial⟩
theorem laws_toBillS_ok (n : Nat) : EntOk Tryz.prog (ents n) (laws_toBillS_ent n) := by
  intro hs ar y hg h
  replace h : laws_toBillS_D n ar = some y := h
  unfold laws_toBillS_D at h
  replace h := ocons_some h
  obtain ⟨a0, r0, rfl, h⟩ := h
  replace h := onil_some h
  obtain ⟨rfl, h⟩ := h
  obtain ⟨a0, qh0, h⟩ := obind_some h
  rw [argV_eq ok qh0]
  exact call_of (phiE_nat _ _) hs ok mixed Tryz.func23 (c := laws_toBillS_code) (by kernel_rfl) (laws_toBillS_lo n) (by kernel_rfl) (by kernel_rfl) (by kernel_rfl) laws_toBillS_de ((laws_toBillS_tie n a0).trans h)
noncomputable def laws_toIntS_code : Code := match Tryz.f24.body with | some c => c | none => .skip
def laws_toIntS_3_sv : List Sv := [.one (.arr 3), .one (.own 3000000 3 false), .one (.int .i64)]
def laws_toIntS_3_so : List So := [.arr 3 false]
def laws_toIntS_3_emb (c : List Int) (x : Int × List Int) : EVs T laws_toIntS_3_sv × EOs T laws_toIntS_3_so := ((c, (), x.1, ()), (x.2, ()))
def laws_toIntS_3_prj (y : EVs T laws_toIntS_3_sv × EOs T laws_toIntS_3_so) : List Int × (Int × List Int) := ((y.1.1), (y.1.2.2.1, y.2.1))
def laws_toIntS_3_b (n : Nat) {R : Type} (K : Ex → Sm.St T → Option R) (c : List Int) (x : Int × List Int) (J : (Int × List Int) → Option R) : Option R :=
  laws_toIntS_L3 n (fun (y0 : List Int) => K (.exit 0) (stOf (T := T) [3] [3000000] [.one (.own 3000000 3 false)] [.arr 3 false] ((), ()) (y0, ()))) (fun z0 z1 => J (z0, z1)) c x.1 x.2
def laws_toIntS_3_sp (n : Nat) : LSpec T := mkSpec T ⟨[((.reg 3), 3000000, 3)], [0, 3, 4], [3000000]⟩ laws_toIntS_3_sv laws_toIntS_3_so (List Int) (Int × List Int) laws_toIntS_3_emb laws_toIntS_3_prj (laws_toIntS_3_b n)
noncomputable def laws_toIntS_3_c : Code := ((loopCodes laws_toIntS_code)[0]?).getD .skip
def laws_toIntS_ann : Ann := fun id => bif Nat.beq id 3000003 then some ⟨[((.reg 3), 3000000, 3)], [3], [3000000]⟩ else none
def laws_toIntS_Ls (n : Nat) : Nat → Option (LSpec T) := fun id => bif Nat.beq id 3 then some (laws_toIntS_3_sp n) else none
theorem laws_toIntS_3_le (n : Nat) : LoopEq (T := T) (Phi n 10) (laws_toIntS_Ls n) laws_toIntS_ann n laws_toIntS_3_c (laws_toIntS_3_sp n) := ⟨mkSpec_dec (fun y => rfl), fun c x => by kernel_rfl, fun K J c x => by kernel_rfl⟩
theorem laws_toIntS_tie (n : Nat) (a0 : List Int) : evF (T := T) (Phi n 10) (laws_toIntS_Ls n) laws_toIntS_ann n Tryz.f24 (sg 24) [vA T 23 a0] laws_toIntS_dec = laws_toIntS n a0 := by kernel_rfl
theorem laws_toIntS_lo (n : Nat) : LoopsOk (T := T) (Phi n 10) (laws_toIntS_Ls n) laws_toIntS_ann n laws_toIntS_code := loopsOk_all (cs := [laws_toIntS_3_c]) (by kernel_rfl) ⟨⟨_, by kernel_rfl, laws_toIntS_3_le n⟩, trivial⟩
theorem laws_toIntS_ok (n : Nat) : EntOk Tryz.prog (ents n) (laws_toIntS_ent n) := by
  intro hs ar y hg h
  replace h : laws_toIntS_D n ar = some y := h
  unfold laws_toIntS_D at h
  replace h := ocons_some h
  obtain ⟨a0, r0, rfl, h⟩ := h
  replace h := onil_some h
  obtain ⟨rfl, h⟩ := h
  obtain ⟨a0, qh0, h⟩ := obind_some h
  rw [argV_eq ok qh0]
  exact call_of (phiE_nat _ _) hs ok mixed Tryz.func24 (c := laws_toIntS_code) (by kernel_rfl) (laws_toIntS_lo n) (by kernel_rfl) (by kernel_rfl) (by kernel_rfl) laws_toIntS_de ((laws_toIntS_tie n a0).trans h)
noncomputable def laws_toBook_code : Code := match Tryz.f7.body with | some c => c | none => .skip
def laws_toBook_ann : Ann := fun id => none
def laws_toBook_Ls (n : Nat) : Nat → Option (LSpec T) := fun id => none
theorem laws_toBook_tie (n : Nat) (a0 : SBook) : evF (T := T) (Phi n 11) (laws_toBook_Ls n) laws_toBook_ann n Tryz.f7 (sg 7) [vA T 25 a0] laws_toBook_dec = laws_toBook n a0 := by kernel_rfl
theorem laws_toBook_lo (n : Nat) : LoopsOk (T := T) (Phi n 11) (laws_toBook_Ls n) laws_toBook_ann n laws_toBook_code := loopsOk_all (cs := []) (by kernel_rfl) trivial
theorem laws_toBook_ok (n : Nat) : EntOk Tryz.prog (ents n) (laws_toBook_ent n) := by
  intro hs ar y hg h
  replace h : laws_toBook_D n ar = some y := h
  unfold laws_toBook_D at h
  replace h := ocons_some h
  obtain ⟨a0, r0, rfl, h⟩ := h
  replace h := onil_some h
  obtain ⟨rfl, h⟩ := h
  obtain ⟨a0, qh0, h⟩ := obind_some h
  rw [argV_eq ok qh0]
  exact call_of (phiE_nat _ _) hs ok mixed Tryz.func7 (c := laws_toBook_code) (by kernel_rfl) (laws_toBook_lo n) (by kernel_rfl) (by kernel_rfl) (by kernel_rfl) laws_toBook_de ((laws_toBook_tie n a0).trans h)
noncomputable def laws_toBillOp_code : Code := match Tryz.f25.body with | some c => c | none => .skip
def laws_toBillOp_ann : Ann := fun id => none
def laws_toBillOp_Ls (n : Nat) : Nat → Option (LSpec T) := fun id => none
theorem laws_toBillOp_tie (n : Nat) (a0 : SBillOp) : evF (T := T) (Phi n 12) (laws_toBillOp_Ls n) laws_toBillOp_ann n Tryz.f25 (sg 25) [vA T 47 a0] laws_toBillOp_dec = laws_toBillOp n a0 := by kernel_rfl
theorem laws_toBillOp_lo (n : Nat) : LoopsOk (T := T) (Phi n 12) (laws_toBillOp_Ls n) laws_toBillOp_ann n laws_toBillOp_code := loopsOk_all (cs := []) (by kernel_rfl) trivial
theorem laws_toBillOp_ok (n : Nat) : EntOk Tryz.prog (ents n) (laws_toBillOp_ent n) := by
  intro hs ar y hg h
  replace h : laws_toBillOp_D n ar = some y := h
  unfold laws_toBillOp_D at h
  replace h := ocons_some h
  obtain ⟨a0, r0, rfl, h⟩ := h
  replace h := onil_some h
  obtain ⟨rfl, h⟩ := h
  obtain ⟨a0, qh0, h⟩ := obind_some h
  rw [argV_eq ok qh0]
  exact call_of (phiE_nat _ _) hs ok mixed Tryz.func25 (c := laws_toBillOp_code) (by kernel_rfl) (laws_toBillOp_lo n) (by kernel_rfl) (by kernel_rfl) (by kernel_rfl) laws_toBillOp_de ((laws_toBillOp_tie n a0).trans h)
noncomputable def laws_toBillOpS_code : Code := match Tryz.f8.body with | some c => c | none => .skip
def laws_toBillOpS_3_sv : List Sv := [.one (.arr 47), .one (.own 3000000 51 false), .one (.int .i64)]
def laws_toBillOpS_3_so : List So := [.arr 51 false]
def laws_toBillOpS_3_emb (c : List SBillOp) (x : Int × List SBillOp) : EVs T laws_toBillOpS_3_sv × EOs T laws_toBillOpS_3_so := ((c, (), x.1, ()), (x.2, ()))
def laws_toBillOpS_3_prj (y : EVs T laws_toBillOpS_3_sv × EOs T laws_toBillOpS_3_so) : List SBillOp × (Int × List SBillOp) := ((y.1.1), (y.1.2.2.1, y.2.1))
def laws_toBillOpS_3_b (n : Nat) {R : Type} (K : Ex → Sm.St T → Option R) (c : List SBillOp) (x : Int × List SBillOp) (J : (Int × List SBillOp) → Option R) : Option R :=
  laws_toBillOpS_L3 n (fun (y0 : List SBillOp) => K (.exit 0) (stOf (T := T) [3] [3000000] [.one (.own 3000000 51 false)] [.arr 51 false] ((), ()) (y0, ()))) (fun z0 z1 => J (z0, z1)) c x.1 x.2
def laws_toBillOpS_3_sp (n : Nat) : LSpec T := mkSpec T ⟨[((.reg 3), 3000000, 51)], [0, 3, 4], [3000000]⟩ laws_toBillOpS_3_sv laws_toBillOpS_3_so (List SBillOp) (Int × List SBillOp) laws_toBillOpS_3_emb laws_toBillOpS_3_prj (laws_toBillOpS_3_b n)
noncomputable def laws_toBillOpS_3_c : Code := ((loopCodes laws_toBillOpS_code)[0]?).getD .skip
def laws_toBillOpS_ann : Ann := fun id => bif Nat.beq id 3000003 then some ⟨[((.reg 3), 3000000, 51)], [3], [3000000]⟩ else none
def laws_toBillOpS_Ls (n : Nat) : Nat → Option (LSpec T) := fun id => bif Nat.beq id 3 then some (laws_toBillOpS_3_sp n) else none
theorem laws_toBillOpS_3_le (n : Nat) : LoopEq (T := T) (Phi n 13) (laws_toBillOpS_Ls n) laws_toBillOpS_ann n laws_toBillOpS_3_c (laws_toBillOpS_3_sp n) := ⟨mkSpec_dec (fun y => rfl), fun c x => by kernel_rfl, fun K J c x => by kernel_rfl⟩
theorem laws_toBillOpS_tie (n : Nat) (a0 : List SBillOp) : evF (T := T) (Phi n 13) (laws_toBillOpS_Ls n) laws_toBillOpS_ann n Tryz.f8 (sg 8) [vA T 26 a0] laws_toBillOpS_dec = laws_toBillOpS n a0 := by kernel_rfl
theorem laws_toBillOpS_lo (n : Nat) : LoopsOk (T := T) (Phi n 13) (laws_toBillOpS_Ls n) laws_toBillOpS_ann n laws_toBillOpS_code := loopsOk_all (cs := [laws_toBillOpS_3_c]) (by kernel_rfl) ⟨⟨_, by kernel_rfl, laws_toBillOpS_3_le n⟩, trivial⟩
theorem laws_toBillOpS_ok (n : Nat) : EntOk Tryz.prog (ents n) (laws_toBillOpS_ent n) := by
  intro hs ar y hg h
  replace h : laws_toBillOpS_D n ar = some y := h
  unfold laws_toBillOpS_D at h
  replace h := ocons_some h
  obtain ⟨a0, r0, rfl, h⟩ := h
  replace h := onil_some h
  obtain ⟨rfl, h⟩ := h
  obtain ⟨a0, qh0, h⟩ := obind_some h
  rw [argV_eq ok qh0]
  exact call_of (phiE_nat _ _) hs ok mixed Tryz.func8 (c := laws_toBillOpS_code) (by kernel_rfl) (laws_toBillOpS_lo n) (by kernel_rfl) (by kernel_rfl) (by kernel_rfl) laws_toBillOpS_de ((laws_toBillOpS_tie n a0).trans h)
noncomputable def spec_l14Copy_code : Code := match Tryz.f21.body with | some c => c | none => .skip
def spec_l14Copy_3_sv : List Sv := [.one (.ptr 8 0 0), .one (.ptr 16 0 0), .one (.ptr 24 0 0), .one (.int .i64)]
def spec_l14Copy_3_so : List So := [.var [.arr 64, .arr 3], .var [.own 3000000 64 false, .own 3000001 3 false], .arr 64 false, .arr 3 false, .var [.own 3000002 64 false, .own 3000003 3 false], .arr 64 false, .arr 3 false]
def spec_l14Copy_3_emb (c : SBook × List SBill × List Int × List Int) (x : Int × List SBill) : EVs T spec_l14Copy_3_sv × EOs T spec_l14Copy_3_so := (((), (), (), x.1, ()), ((c.1.Bills, c.1.Freed, ()), ((), (), ()), c.2.1, c.2.2.1, ((), (), ()), x.2, c.2.2.2, ()))
def spec_l14Copy_3_prj (y : EVs T spec_l14Copy_3_sv × EOs T spec_l14Copy_3_so) : (SBook × List SBill × List Int × List Int) × (Int × List SBill) := ((((⟨y.2.1.1, y.2.1.2.1⟩ : SBook) : SBook), y.2.2.2.1, y.2.2.2.2.1, y.2.2.2.2.2.2.2.1), (y.1.2.2.2.1, y.2.2.2.2.2.2.1))
def spec_l14Copy_3_b (n : Nat) {R : Type} (K : Ex → Sm.St T → Option R) (c : SBook × List SBill × List Int × List Int) (x : Int × List SBill) (J : (Int × List SBill) → Option R) : Option R :=
  spec_l14Copy_L3 n (fun (y2 : List SBill) => K (.exit 0) (stOf (T := T) [2, 3] [16, 3000000, 3000001, 24, 3000002, 3000003] [.one (.ptr 16 0 0), .one (.ptr 24 0 0)] [.var [.own 3000000 64 false, .own 3000001 3 false], .arr 64 false, .arr 3 false, .var [.own 3000002 64 false, .own 3000003 3 false], .arr 64 false, .arr 3 false] ((), (), ()) (((), (), ()), c.2.1, c.2.2.1, ((), (), ()), y2, c.2.2.2, ()))) (fun z0 z1 => J (z0, z1)) x.1 c.1 c.2.1 c.2.2.1 x.2 c.2.2.2
def spec_l14Copy_3_sp (n : Nat) : LSpec T := mkSpec T ⟨[((.cell 16 0), 3000000, 64), ((.cell 16 1), 3000001, 3), ((.cell 24 0), 3000002, 64), ((.cell 24 1), 3000003, 3)], [1, 2, 3, 4], [8, 16, 3000000, 3000001, 24, 3000002, 3000003]⟩ spec_l14Copy_3_sv spec_l14Copy_3_so (SBook × List SBill × List Int × List Int) (Int × List SBill) spec_l14Copy_3_emb spec_l14Copy_3_prj (spec_l14Copy_3_b n)
noncomputable def spec_l14Copy_3_c : Code := ((loopCodes spec_l14Copy_code)[0]?).getD .skip
def spec_l14Copy_ann : Ann := fun id => bif Nat.beq id 3000003 then some ⟨[((.cell 16 0), 3000000, 64), ((.cell 16 1), 3000001, 3), ((.cell 24 0), 3000002, 64), ((.cell 24 1), 3000003, 3)], [2, 3], [16, 3000000, 3000001, 24, 3000002, 3000003]⟩ else none
def spec_l14Copy_Ls (n : Nat) : Nat → Option (LSpec T) := fun id => bif Nat.beq id 3 then some (spec_l14Copy_3_sp n) else none
theorem spec_l14Copy_3_le (n : Nat) : LoopEq (T := T) (Phi n 14) (spec_l14Copy_Ls n) spec_l14Copy_ann n spec_l14Copy_3_c (spec_l14Copy_3_sp n) := ⟨mkSpec_dec (fun y => rfl), fun c x => by kernel_rfl, fun K J c x => by kernel_rfl⟩
theorem spec_l14Copy_tie (n : Nat) (b0 : SBook) : evF (T := T) (Phi n 14) (spec_l14Copy_Ls n) spec_l14Copy_ann n Tryz.f21 (sg 21) [vA T 31 b0] spec_l14Copy_dec = spec_l14Copy n b0 := by kernel_rfl
theorem spec_l14Copy_lo (n : Nat) : LoopsOk (T := T) (Phi n 14) (spec_l14Copy_Ls n) spec_l14Copy_ann n spec_l14Copy_code := loopsOk_all (cs := [spec_l14Copy_3_c]) (by kernel_rfl) ⟨⟨_, by kernel_rfl, spec_l14Copy_3_le n⟩, trivial⟩
theorem spec_l14Copy_ok (n : Nat) : EntOk Tryz.prog (ents n) (spec_l14Copy_ent n) := by
  intro hs ar y hg h
  replace h : spec_l14Copy_D n ar = some y := h
  unfold spec_l14Copy_D at h
  replace h := ocons_some h
  obtain ⟨a0, r0, rfl, h⟩ := h
  replace h := onil_some h
  obtain ⟨rfl, h⟩ := h
  obtain ⟨b0, qh0, h⟩ := obind_some h
  rw [argV_eq ok qh0]
  exact call_of (phiE_nat _ _) hs ok mixed Tryz.func21 (c := spec_l14Copy_code) (by kernel_rfl) (spec_l14Copy_lo n) (by kernel_rfl) (by kernel_rfl) (by kernel_rfl) spec_l14Copy_de ((spec_l14Copy_tie n b0).trans h)
noncomputable def spec_l1In_code : Code := match Tryz.f62.body with | some c => c | none => .skip
def spec_l1In_ann : Ann := fun id => none
def spec_l1In_Ls (n : Nat) : Nat → Option (LSpec T) := fun id => none
theorem spec_l1In_tie (n : Nat) (x0 : Int) (a1 : Int) (b2 : Int) : evF (T := T) (Phi n 15) (spec_l1In_Ls n) spec_l1In_ann n Tryz.f62 (sg 62) [vA T 3 x0, vA T 3 a1, vA T 3 b2] spec_l1In_dec = spec_l1In n x0 a1 b2 := by kernel_rfl
theorem spec_l1In_lo (n : Nat) : LoopsOk (T := T) (Phi n 15) (spec_l1In_Ls n) spec_l1In_ann n spec_l1In_code := loopsOk_all (cs := []) (by kernel_rfl) trivial
theorem spec_l1In_ok (n : Nat) : EntOk Tryz.prog (ents n) (spec_l1In_ent n) := by
  intro hs ar y hg h
  replace h : spec_l1In_D n ar = some y := h
  unfold spec_l1In_D at h
  replace h := ocons_some h
  obtain ⟨a0, r0, rfl, h⟩ := h
  replace h := ocons_some h
  obtain ⟨a1, r1, rfl, h⟩ := h
  replace h := ocons_some h
  obtain ⟨a2, r2, rfl, h⟩ := h
  replace h := onil_some h
  obtain ⟨rfl, h⟩ := h
  obtain ⟨x0, qh0, h⟩ := obind_some h
  obtain ⟨a1, qh1, h⟩ := obind_some h
  obtain ⟨b2, qh2, h⟩ := obind_some h
  rw [argV_eq ok qh0, argV_eq ok qh1, argV_eq ok qh2]
  exact call_of (phiE_nat _ _) hs ok mixed Tryz.func62 (c := spec_l1In_code) (by kernel_rfl) (spec_l1In_lo n) (by kernel_rfl) (by kernel_rfl) (by kernel_rfl) spec_l1In_de ((spec_l1In_tie n x0 a1 b2).trans h)
noncomputable def spec_l1Name_code : Code := match Tryz.f63.body with | some c => c | none => .skip
def spec_l1Name_2_sv : List Sv := [.one (.str), .one (.int .i64)]
def spec_l1Name_2_so : List So := []
def spec_l1Name_2_emb (c : ByteArray) (x : Int) : EVs T spec_l1Name_2_sv × EOs T spec_l1Name_2_so := ((c, x, ()), ())
def spec_l1Name_2_prj (y : EVs T spec_l1Name_2_sv × EOs T spec_l1Name_2_so) : ByteArray × Int := ((y.1.1), (y.1.2.1))
def spec_l1Name_2_b (n : Nat) {R : Type} (K : Ex → Sm.St T → Option R) (c : ByteArray) (x : Int) (J : Int → Option R) : Option R :=
  spec_l1Name_L2 n (K (.exit 0) (stOf (T := T) [0] [] [.one (.str)] [] (c, ()) ())) (fun (y0 : Bool) => K .ret (stOf (T := T) [2] [] [.one (.bool)] [] (y0, ()) ())) J c x
def spec_l1Name_2_sp (n : Nat) : LSpec T := mkSpec T ⟨[], [0, 3], []⟩ spec_l1Name_2_sv spec_l1Name_2_so (ByteArray) (Int) spec_l1Name_2_emb spec_l1Name_2_prj (spec_l1Name_2_b n)
noncomputable def spec_l1Name_2_c : Code := ((loopCodes spec_l1Name_code)[0]?).getD .skip
def spec_l1Name_ann : Ann := fun id => bif Nat.beq id 3000002 then some ⟨[], [0], []⟩ else bif Nat.beq id 2000002 then some ⟨[], [2], []⟩ else none
def spec_l1Name_Ls (n : Nat) : Nat → Option (LSpec T) := fun id => bif Nat.beq id 2 then some (spec_l1Name_2_sp n) else none
theorem spec_l1Name_2_le (n : Nat) : LoopEq (T := T) (Phi n 16) (spec_l1Name_Ls n) spec_l1Name_ann n spec_l1Name_2_c (spec_l1Name_2_sp n) := ⟨mkSpec_dec (fun y => rfl), fun c x => by kernel_rfl, fun K J c x => by kernel_rfl⟩
theorem spec_l1Name_tie (n : Nat) (s0 : ByteArray) : evF (T := T) (Phi n 16) (spec_l1Name_Ls n) spec_l1Name_ann n Tryz.f63 (sg 63) [vA T 9 s0] spec_l1Name_dec = spec_l1Name n s0 := by kernel_rfl
theorem spec_l1Name_lo (n : Nat) : LoopsOk (T := T) (Phi n 16) (spec_l1Name_Ls n) spec_l1Name_ann n spec_l1Name_code := loopsOk_all (cs := [spec_l1Name_2_c]) (by kernel_rfl) ⟨⟨_, by kernel_rfl, spec_l1Name_2_le n⟩, trivial⟩
theorem spec_l1Name_ok (n : Nat) : EntOk Tryz.prog (ents n) (spec_l1Name_ent n) := by
  intro hs ar y hg h
  replace h : spec_l1Name_D n ar = some y := h
  unfold spec_l1Name_D at h
  replace h := ocons_some h
  obtain ⟨a0, r0, rfl, h⟩ := h
  replace h := onil_some h
  obtain ⟨rfl, h⟩ := h
  obtain ⟨s0, qh0, h⟩ := obind_some h
  rw [argV_eq ok qh0]
  exact call_of (phiE_nat _ _) hs ok mixed Tryz.func63 (c := spec_l1Name_code) (by kernel_rfl) (spec_l1Name_lo n) (by kernel_rfl) (by kernel_rfl) (by kernel_rfl) spec_l1Name_de ((spec_l1Name_tie n s0).trans h)
noncomputable def spec_l14Find_code : Code := match Tryz.f37.body with | some c => c | none => .skip
def spec_l14Find_2_sv : List Sv := [.one (.int .i64), .one (.ptr 16 0 0), .one (.int .i64)]
def spec_l14Find_2_so : List So := [.var [.arr 64, .arr 3]]
def spec_l14Find_2_emb (c : Int × SBook) (x : Int) : EVs T spec_l14Find_2_sv × EOs T spec_l14Find_2_so := ((c.1, (), x, ()), ((c.2.Bills, c.2.Freed, ()), ()))
def spec_l14Find_2_prj (y : EVs T spec_l14Find_2_sv × EOs T spec_l14Find_2_so) : (Int × SBook) × Int := ((y.1.1, ((⟨y.2.1.1, y.2.1.2.1⟩ : SBook) : SBook)), (y.1.2.2.1))
def spec_l14Find_2_b (n : Nat) {R : Type} (K : Ex → Sm.St T → Option R) (c : Int × SBook) (x : Int) (J : Int → Option R) : Option R :=
  spec_l14Find_L2 n (K (.exit 0) (stOf (T := T) [] [] [] [] () ())) (fun (y0 : Int) => K .ret (stOf (T := T) [4] [] [.one (.int .i64)] [] (y0, ()) ())) J c.1 x c.2
def spec_l14Find_2_sp (n : Nat) : LSpec T := mkSpec T ⟨[], [1, 2, 5], [16]⟩ spec_l14Find_2_sv spec_l14Find_2_so (Int × SBook) (Int) spec_l14Find_2_emb spec_l14Find_2_prj (spec_l14Find_2_b n)
noncomputable def spec_l14Find_2_c : Code := ((loopCodes spec_l14Find_code)[0]?).getD .skip
def spec_l14Find_ann : Ann := fun id => bif Nat.beq id 3000002 then some ⟨[], [], []⟩ else bif Nat.beq id 2000002 then some ⟨[], [4], []⟩ else none
def spec_l14Find_Ls (n : Nat) : Nat → Option (LSpec T) := fun id => bif Nat.beq id 2 then some (spec_l14Find_2_sp n) else none
theorem spec_l14Find_2_le (n : Nat) : LoopEq (T := T) (Phi n 17) (spec_l14Find_Ls n) spec_l14Find_ann n spec_l14Find_2_c (spec_l14Find_2_sp n) := ⟨mkSpec_dec (fun y => rfl), fun c x => by kernel_rfl, fun K J c x => by kernel_rfl⟩
theorem spec_l14Find_tie (n : Nat) (b0 : SBook) (id1 : Int) : evF (T := T) (Phi n 17) (spec_l14Find_Ls n) spec_l14Find_ann n Tryz.f37 (sg 37) [vA T 31 b0, vA T 3 id1] spec_l14Find_dec = spec_l14Find n b0 id1 := by kernel_rfl
theorem spec_l14Find_lo (n : Nat) : LoopsOk (T := T) (Phi n 17) (spec_l14Find_Ls n) spec_l14Find_ann n spec_l14Find_code := loopsOk_all (cs := [spec_l14Find_2_c]) (by kernel_rfl) ⟨⟨_, by kernel_rfl, spec_l14Find_2_le n⟩, trivial⟩
theorem spec_l14Find_ok (n : Nat) : EntOk Tryz.prog (ents n) (spec_l14Find_ent n) := by
  intro hs ar y hg h
  replace h : spec_l14Find_D n ar = some y := h
  unfold spec_l14Find_D at h
  replace h := ocons_some h
  obtain ⟨a0, r0, rfl, h⟩ := h
  replace h := ocons_some h
  obtain ⟨a1, r1, rfl, h⟩ := h
  replace h := onil_some h
  obtain ⟨rfl, h⟩ := h
  obtain ⟨b0, qh0, h⟩ := obind_some h
  obtain ⟨id1, qh1, h⟩ := obind_some h
  rw [argV_eq ok qh0, argV_eq ok qh1]
  exact call_of (phiE_nat _ _) hs ok mixed Tryz.func37 (c := spec_l14Find_code) (by kernel_rfl) (spec_l14Find_lo n) (by kernel_rfl) (by kernel_rfl) (by kernel_rfl) spec_l14Find_de ((spec_l14Find_tie n b0 id1).trans h)
noncomputable def spec_BookOk_code : Code := match Tryz.f35.body with | some c => c | none => .skip
def spec_BookOk_2_sv : List Sv := [.one (.ptr 8 0 0), .one (.int .i64)]
def spec_BookOk_2_so : List So := [.var [.arr 64, .arr 3]]
def spec_BookOk_2_emb (c : SBook) (x : Int) : EVs T spec_BookOk_2_sv × EOs T spec_BookOk_2_so := (((), x, ()), ((c.Bills, c.Freed, ()), ()))
def spec_BookOk_2_prj (y : EVs T spec_BookOk_2_sv × EOs T spec_BookOk_2_so) : SBook × Int := ((((⟨y.2.1.1, y.2.1.2.1⟩ : SBook) : SBook)), (y.1.2.1))
def spec_BookOk_2_b (n : Nat) {R : Type} (K : Ex → Sm.St T → Option R) (c : SBook) (x : Int) (J : Int → Option R) : Option R :=
  spec_BookOk_L2 n (K (.exit 0) (stOf (T := T) [1] [8] [.one (.ptr 8 0 0)] [.var [.arr 64, .arr 3]] ((), ()) ((c.Bills, c.Freed, ()), ()))) (fun (y0 : Bool) => K .ret (stOf (T := T) [2] [] [.one (.bool)] [] (y0, ()) ())) J x c
def spec_BookOk_2_sp (n : Nat) : LSpec T := mkSpec T ⟨[], [1, 3], [8]⟩ spec_BookOk_2_sv spec_BookOk_2_so (SBook) (Int) spec_BookOk_2_emb spec_BookOk_2_prj (spec_BookOk_2_b n)
noncomputable def spec_BookOk_2_c : Code := ((loopCodes spec_BookOk_code)[0]?).getD .skip
def spec_BookOk_8_sv : List Sv := [.one (.ptr 8 0 0), .one (.int .i64), .one (.ptr 32 0 0), .one (.int .i64)]
def spec_BookOk_8_so : List So := [.var [.arr 64, .arr 3], .var [.int .i64, .str, .str, .int .i64, .arr 9]]
def spec_BookOk_8_emb (c : Int × SBook × SBill) (x : Int) : EVs T spec_BookOk_8_sv × EOs T spec_BookOk_8_so := (((), c.1, (), x, ()), ((c.2.1.Bills, c.2.1.Freed, ()), (c.2.2.Id, c.2.2.Shipper, c.2.2.Order, c.2.2.Many, c.2.2.Held, ()), ()))
def spec_BookOk_8_prj (y : EVs T spec_BookOk_8_sv × EOs T spec_BookOk_8_so) : (Int × SBook × SBill) × Int := ((y.1.2.1, ((⟨y.2.1.1, y.2.1.2.1⟩ : SBook) : SBook), ((⟨y.2.2.1.1, y.2.2.1.2.1, y.2.2.1.2.2.1, y.2.2.1.2.2.2.1, y.2.2.1.2.2.2.2.1⟩ : SBill) : SBill)), (y.1.2.2.2.1))
def spec_BookOk_8_b (n : Nat) {R : Type} (K : Ex → Sm.St T → Option R) (c : Int × SBook × SBill) (x : Int) (J : Int → Option R) : Option R :=
  spec_BookOk_L8 n (K (.exit 2) (stOf (T := T) [1, 3] [8] [.one (.ptr 8 0 0), .one (.int .i64)] [.var [.arr 64, .arr 3]] ((), c.1, ()) ((c.2.1.Bills, c.2.1.Freed, ()), ()))) (fun (y0 : Bool) => K .ret (stOf (T := T) [2] [] [.one (.bool)] [] (y0, ()) ())) J c.1 x c.2.1 c.2.2
def spec_BookOk_8_sp (n : Nat) : LSpec T := mkSpec T ⟨[], [1, 3, 4, 5], [8, 32]⟩ spec_BookOk_8_sv spec_BookOk_8_so (Int × SBook × SBill) (Int) spec_BookOk_8_emb spec_BookOk_8_prj (spec_BookOk_8_b n)
noncomputable def spec_BookOk_8_c : Code := ((loopCodes spec_BookOk_code)[1]?).getD .skip
def spec_BookOk_13_sv : List Sv := [.one (.ptr 8 0 0), .one (.int .i64)]
def spec_BookOk_13_so : List So := [.var [.arr 64, .arr 3]]
def spec_BookOk_13_emb (c : SBook) (x : Int) : EVs T spec_BookOk_13_sv × EOs T spec_BookOk_13_so := (((), x, ()), ((c.Bills, c.Freed, ()), ()))
def spec_BookOk_13_prj (y : EVs T spec_BookOk_13_sv × EOs T spec_BookOk_13_so) : SBook × Int := ((((⟨y.2.1.1, y.2.1.2.1⟩ : SBook) : SBook)), (y.1.2.1))
def spec_BookOk_13_b (n : Nat) {R : Type} (K : Ex → Sm.St T → Option R) (c : SBook) (x : Int) (J : Int → Option R) : Option R :=
  spec_BookOk_L13 n (K (.exit 4) (stOf (T := T) [1] [8] [.one (.ptr 8 0 0)] [.var [.arr 64, .arr 3]] ((), ()) ((c.Bills, c.Freed, ()), ()))) (fun (y0 : Bool) => K .ret (stOf (T := T) [2] [] [.one (.bool)] [] (y0, ()) ())) J x c
def spec_BookOk_13_sp (n : Nat) : LSpec T := mkSpec T ⟨[], [1, 6], [8]⟩ spec_BookOk_13_sv spec_BookOk_13_so (SBook) (Int) spec_BookOk_13_emb spec_BookOk_13_prj (spec_BookOk_13_b n)
noncomputable def spec_BookOk_13_c : Code := ((loopCodes spec_BookOk_code)[2]?).getD .skip
def spec_BookOk_ann : Ann := fun id => bif Nat.beq id 3000002 then some ⟨[], [1], [8]⟩ else bif Nat.beq id 2000002 then some ⟨[], [2], []⟩ else bif Nat.beq id 5000008 then some ⟨[], [1, 3], [8]⟩ else bif Nat.beq id 2000008 then some ⟨[], [2], []⟩ else bif Nat.beq id 7000013 then some ⟨[], [1], [8]⟩ else bif Nat.beq id 2000013 then some ⟨[], [2], []⟩ else none
def spec_BookOk_Ls (n : Nat) : Nat → Option (LSpec T) := fun id => bif Nat.beq id 2 then some (spec_BookOk_2_sp n) else bif Nat.beq id 8 then some (spec_BookOk_8_sp n) else bif Nat.beq id 13 then some (spec_BookOk_13_sp n) else none
theorem spec_BookOk_2_le (n : Nat) : LoopEq (T := T) (Phi n 18) (spec_BookOk_Ls n) spec_BookOk_ann n spec_BookOk_2_c (spec_BookOk_2_sp n) := ⟨mkSpec_dec (fun y => rfl), fun c x => by kernel_rfl, fun K J c x => by kernel_rfl⟩
theorem spec_BookOk_8_le (n : Nat) : LoopEq (T := T) (Phi n 18) (spec_BookOk_Ls n) spec_BookOk_ann n spec_BookOk_8_c (spec_BookOk_8_sp n) := ⟨mkSpec_dec (fun y => rfl), fun c x => by kernel_rfl, fun K J c x => by kernel_rfl⟩
theorem spec_BookOk_13_le (n : Nat) : LoopEq (T := T) (Phi n 18) (spec_BookOk_Ls n) spec_BookOk_ann n spec_BookOk_13_c (spec_BookOk_13_sp n) := ⟨mkSpec_dec (fun y => rfl), fun c x => by kernel_rfl, fun K J c x => by kernel_rfl⟩
theorem spec_BookOk_tie (n : Nat) (b0 : SBook) : evF (T := T) (Phi n 18) (spec_BookOk_Ls n) spec_BookOk_ann n Tryz.f35 (sg 35) [vA T 31 b0] spec_BookOk_dec = spec_BookOk n b0 := by kernel_rfl
theorem spec_BookOk_lo (n : Nat) : LoopsOk (T := T) (Phi n 18) (spec_BookOk_Ls n) spec_BookOk_ann n spec_BookOk_code := loopsOk_all (cs := [spec_BookOk_2_c, spec_BookOk_8_c, spec_BookOk_13_c]) (by kernel_rfl) ⟨⟨_, by kernel_rfl, spec_BookOk_2_le n⟩, ⟨_, by kernel_rfl, spec_BookOk_8_le n⟩, ⟨_, by kernel_rfl, spec_BookOk_13_le n⟩, trivial⟩
theorem spec_BookOk_ok (n : Nat) : EntOk Tryz.prog (ents n) (spec_BookOk_ent n) := by
  intro hs ar y hg h
  replace h : spec_BookOk_D n ar = some y := h
  unfold spec_BookOk_D at h
  replace h := ocons_some h
  obtain ⟨a0, r0, rfl, h⟩ := h
  replace h := onil_some h
  obtain ⟨rfl, h⟩ := h
  obtain ⟨b0, qh0, h⟩ := obind_some h
  rw [argV_eq ok qh0]
  exact call_of (phiE_nat _ _) hs ok mixed Tryz.func35 (c := spec_BookOk_code) (by kernel_rfl) (spec_BookOk_lo n) (by kernel_rfl) (by kernel_rfl) (by kernel_rfl) spec_BookOk_de ((spec_BookOk_tie n b0).trans h)
noncomputable def spec_l14Op_code : Code := match Tryz.f36.body with | some c => c | none => .skip
def spec_l14Op_ann : Ann := fun id => none
def spec_l14Op_Ls (n : Nat) : Nat → Option (LSpec T) := fun id => none
theorem spec_l14Op_tie (n : Nat) (op0 : SBillOp) : evF (T := T) (Phi n 19) (spec_l14Op_Ls n) spec_l14Op_ann n Tryz.f36 (sg 36) [vA T 51 op0] spec_l14Op_dec = spec_l14Op n op0 := by kernel_rfl
theorem spec_l14Op_lo (n : Nat) : LoopsOk (T := T) (Phi n 19) (spec_l14Op_Ls n) spec_l14Op_ann n spec_l14Op_code := loopsOk_all (cs := []) (by kernel_rfl) trivial
theorem spec_l14Op_ok (n : Nat) : EntOk Tryz.prog (ents n) (spec_l14Op_ent n) := by
  intro hs ar y hg h
  replace h : spec_l14Op_D n ar = some y := h
  unfold spec_l14Op_D at h
  replace h := ocons_some h
  obtain ⟨a0, r0, rfl, h⟩ := h
  replace h := onil_some h
  obtain ⟨rfl, h⟩ := h
  obtain ⟨op0, qh0, h⟩ := obind_some h
  rw [argV_eq ok qh0]
  exact call_of (phiE_nat _ _) hs ok mixed Tryz.func36 (c := spec_l14Op_code) (by kernel_rfl) (spec_l14Op_lo n) (by kernel_rfl) (by kernel_rfl) (by kernel_rfl) spec_l14Op_de ((spec_l14Op_tie n op0).trans h)
noncomputable def spec_l14Made_code : Code := match Tryz.f38.body with | some c => c | none => .skip
def spec_l14Made_3_sv : List Sv := [.one (.str), .one (.int .i64), .one (.own 3000000 9 false), .one (.int .i64)]
def spec_l14Made_3_so : List So := [.arr 9 false]
def spec_l14Made_3_emb (c : ByteArray × Int) (x : Int × List ByteArray) : EVs T spec_l14Made_3_sv × EOs T spec_l14Made_3_so := ((c.1, c.2, (), x.1, ()), (x.2, ()))
def spec_l14Made_3_prj (y : EVs T spec_l14Made_3_sv × EOs T spec_l14Made_3_so) : (ByteArray × Int) × (Int × List ByteArray) := ((y.1.1, y.1.2.1), (y.1.2.2.2.1, y.2.1))
def spec_l14Made_3_b (n : Nat) {R : Type} (K : Ex → Sm.St T → Option R) (c : ByteArray × Int) (x : Int × List ByteArray) (J : (Int × List ByteArray) → Option R) : Option R :=
  spec_l14Made_L3 n (fun (y0 : List ByteArray) => K (.exit 0) (stOf (T := T) [5] [3000000] [.one (.own 3000000 9 false)] [.arr 9 false] ((), ()) (y0, ()))) (fun z0 z1 => J (z0, z1)) c.1 c.2 x.1 x.2
def spec_l14Made_3_sp (n : Nat) : LSpec T := mkSpec T ⟨[((.reg 5), 3000000, 9)], [0, 1, 5, 6], [3000000]⟩ spec_l14Made_3_sv spec_l14Made_3_so (ByteArray × Int) (Int × List ByteArray) spec_l14Made_3_emb spec_l14Made_3_prj (spec_l14Made_3_b n)
noncomputable def spec_l14Made_3_c : Code := ((loopCodes spec_l14Made_code)[0]?).getD .skip
def spec_l14Made_ann : Ann := fun id => bif Nat.beq id 3000003 then some ⟨[((.reg 5), 3000000, 9)], [5], [3000000]⟩ else none
def spec_l14Made_Ls (n : Nat) : Nat → Option (LSpec T) := fun id => bif Nat.beq id 3 then some (spec_l14Made_3_sp n) else none
theorem spec_l14Made_3_le (n : Nat) : LoopEq (T := T) (Phi n 20) (spec_l14Made_Ls n) spec_l14Made_ann n spec_l14Made_3_c (spec_l14Made_3_sp n) := ⟨mkSpec_dec (fun y => rfl), fun c x => by kernel_rfl, fun K J c x => by kernel_rfl⟩
theorem spec_l14Made_tie (n : Nat) (who0 : ByteArray) (many1 : Int) : evF (T := T) (Phi n 20) (spec_l14Made_Ls n) spec_l14Made_ann n Tryz.f38 (sg 38) [vA T 9 who0, vA T 3 many1] spec_l14Made_dec = spec_l14Made n who0 many1 := by kernel_rfl
theorem spec_l14Made_lo (n : Nat) : LoopsOk (T := T) (Phi n 20) (spec_l14Made_Ls n) spec_l14Made_ann n spec_l14Made_code := loopsOk_all (cs := [spec_l14Made_3_c]) (by kernel_rfl) ⟨⟨_, by kernel_rfl, spec_l14Made_3_le n⟩, trivial⟩
theorem spec_l14Made_ok (n : Nat) : EntOk Tryz.prog (ents n) (spec_l14Made_ent n) := by
  intro hs ar y hg h
  replace h : spec_l14Made_D n ar = some y := h
  unfold spec_l14Made_D at h
  replace h := ocons_some h
  obtain ⟨a0, r0, rfl, h⟩ := h
  replace h := ocons_some h
  obtain ⟨a1, r1, rfl, h⟩ := h
  replace h := onil_some h
  obtain ⟨rfl, h⟩ := h
  obtain ⟨who0, qh0, h⟩ := obind_some h
  obtain ⟨many1, qh1, h⟩ := obind_some h
  rw [argV_eq ok qh0, argV_eq ok qh1]
  exact call_of (phiE_nat _ _) hs ok mixed Tryz.func38 (c := spec_l14Made_code) (by kernel_rfl) (spec_l14Made_lo n) (by kernel_rfl) (by kernel_rfl) (by kernel_rfl) spec_l14Made_de ((spec_l14Made_tie n who0 many1).trans h)
noncomputable def spec_l9Has_code : Code := match Tryz.f39.body with | some c => c | none => .skip
def spec_l9Has_2_sv : List Sv := [.one (.arr 3), .one (.int .i64), .one (.int .i64)]
def spec_l9Has_2_so : List So := []
def spec_l9Has_2_emb (c : List Int × Int) (x : Int) : EVs T spec_l9Has_2_sv × EOs T spec_l9Has_2_so := ((c.1, c.2, x, ()), ())
def spec_l9Has_2_prj (y : EVs T spec_l9Has_2_sv × EOs T spec_l9Has_2_so) : (List Int × Int) × Int := ((y.1.1, y.1.2.1), (y.1.2.2.1))
def spec_l9Has_2_b (n : Nat) {R : Type} (K : Ex → Sm.St T → Option R) (c : List Int × Int) (x : Int) (J : Int → Option R) : Option R :=
  spec_l9Has_L2 n (K (.exit 0) (stOf (T := T) [] [] [] [] () ())) (fun (y0 : Bool) => K .ret (stOf (T := T) [4] [] [.one (.bool)] [] (y0, ()) ())) J c.1 c.2 x
def spec_l9Has_2_sp (n : Nat) : LSpec T := mkSpec T ⟨[], [0, 1, 5], []⟩ spec_l9Has_2_sv spec_l9Has_2_so (List Int × Int) (Int) spec_l9Has_2_emb spec_l9Has_2_prj (spec_l9Has_2_b n)
noncomputable def spec_l9Has_2_c : Code := ((loopCodes spec_l9Has_code)[0]?).getD .skip
def spec_l9Has_ann : Ann := fun id => bif Nat.beq id 3000002 then some ⟨[], [], []⟩ else bif Nat.beq id 2000002 then some ⟨[], [4], []⟩ else none
def spec_l9Has_Ls (n : Nat) : Nat → Option (LSpec T) := fun id => bif Nat.beq id 2 then some (spec_l9Has_2_sp n) else none
theorem spec_l9Has_2_le (n : Nat) : LoopEq (T := T) (Phi n 21) (spec_l9Has_Ls n) spec_l9Has_ann n spec_l9Has_2_c (spec_l9Has_2_sp n) := ⟨mkSpec_dec (fun y => rfl), fun c x => by kernel_rfl, fun K J c x => by kernel_rfl⟩
theorem spec_l9Has_tie (n : Nat) (list0 : List Int) (x1 : Int) : evF (T := T) (Phi n 21) (spec_l9Has_Ls n) spec_l9Has_ann n Tryz.f39 (sg 39) [vA T 23 list0, vA T 3 x1] spec_l9Has_dec = spec_l9Has n list0 x1 := by kernel_rfl
theorem spec_l9Has_lo (n : Nat) : LoopsOk (T := T) (Phi n 21) (spec_l9Has_Ls n) spec_l9Has_ann n spec_l9Has_code := loopsOk_all (cs := [spec_l9Has_2_c]) (by kernel_rfl) ⟨⟨_, by kernel_rfl, spec_l9Has_2_le n⟩, trivial⟩
theorem spec_l9Has_ok (n : Nat) : EntOk Tryz.prog (ents n) (spec_l9Has_ent n) := by
  intro hs ar y hg h
  replace h : spec_l9Has_D n ar = some y := h
  unfold spec_l9Has_D at h
  replace h := ocons_some h
  obtain ⟨a0, r0, rfl, h⟩ := h
  replace h := ocons_some h
  obtain ⟨a1, r1, rfl, h⟩ := h
  replace h := onil_some h
  obtain ⟨rfl, h⟩ := h
  obtain ⟨list0, qh0, h⟩ := obind_some h
  obtain ⟨x1, qh1, h⟩ := obind_some h
  rw [argV_eq ok qh0, argV_eq ok qh1]
  exact call_of (phiE_nat _ _) hs ok mixed Tryz.func39 (c := spec_l9Has_code) (by kernel_rfl) (spec_l9Has_lo n) (by kernel_rfl) (by kernel_rfl) (by kernel_rfl) spec_l9Has_de ((spec_l9Has_tie n list0 x1).trans h)
noncomputable def spec_l14Holds_code : Code := match Tryz.f64.body with | some c => c | none => .skip
def spec_l14Holds_3_sv : List Sv := [.one (.str), .one (.ptr 16 0 0), .one (.int .i64), .one (.int .i64)]
def spec_l14Holds_3_so : List So := [.var [.int .i64, .str, .str, .int .i64, .arr 9]]
def spec_l14Holds_3_emb (c : ByteArray × SBill) (x : Int × Int) : EVs T spec_l14Holds_3_sv × EOs T spec_l14Holds_3_so := ((c.1, (), x.1, x.2, ()), ((c.2.Id, c.2.Shipper, c.2.Order, c.2.Many, c.2.Held, ()), ()))
def spec_l14Holds_3_prj (y : EVs T spec_l14Holds_3_sv × EOs T spec_l14Holds_3_so) : (ByteArray × SBill) × (Int × Int) := ((y.1.1, ((⟨y.2.1.1, y.2.1.2.1, y.2.1.2.2.1, y.2.1.2.2.2.1, y.2.1.2.2.2.2.1⟩ : SBill) : SBill)), (y.1.2.2.1, y.1.2.2.2.1))
def spec_l14Holds_3_b (n : Nat) {R : Type} (K : Ex → Sm.St T → Option R) (c : ByteArray × SBill) (x : Int × Int) (J : (Int × Int) → Option R) : Option R :=
  spec_l14Holds_L3 n (fun (y0 : Int) => K (.exit 0) (stOf (T := T) [5] [] [.one (.int .i64)] [] (y0, ()) ())) (fun z0 z1 => J (z0, z1)) c.1 x.1 x.2 c.2
def spec_l14Holds_3_sp (n : Nat) : LSpec T := mkSpec T ⟨[], [1, 2, 5, 6], [16]⟩ spec_l14Holds_3_sv spec_l14Holds_3_so (ByteArray × SBill) (Int × Int) spec_l14Holds_3_emb spec_l14Holds_3_prj (spec_l14Holds_3_b n)
noncomputable def spec_l14Holds_3_c : Code := ((loopCodes spec_l14Holds_code)[0]?).getD .skip
def spec_l14Holds_ann : Ann := fun id => bif Nat.beq id 3000003 then some ⟨[], [5], []⟩ else none
def spec_l14Holds_Ls (n : Nat) : Nat → Option (LSpec T) := fun id => bif Nat.beq id 3 then some (spec_l14Holds_3_sp n) else none
theorem spec_l14Holds_3_le (n : Nat) : LoopEq (T := T) (Phi n 22) (spec_l14Holds_Ls n) spec_l14Holds_ann n spec_l14Holds_3_c (spec_l14Holds_3_sp n) := ⟨mkSpec_dec (fun y => rfl), fun c x => by kernel_rfl, fun K J c x => by kernel_rfl⟩
theorem spec_l14Holds_tie (n : Nat) (x0 : SBill) (who1 : ByteArray) : evF (T := T) (Phi n 22) (spec_l14Holds_Ls n) spec_l14Holds_ann n Tryz.f64 (sg 64) [vA T 64 x0, vA T 9 who1] spec_l14Holds_dec = spec_l14Holds n x0 who1 := by kernel_rfl
theorem spec_l14Holds_lo (n : Nat) : LoopsOk (T := T) (Phi n 22) (spec_l14Holds_Ls n) spec_l14Holds_ann n spec_l14Holds_code := loopsOk_all (cs := [spec_l14Holds_3_c]) (by kernel_rfl) ⟨⟨_, by kernel_rfl, spec_l14Holds_3_le n⟩, trivial⟩
theorem spec_l14Holds_ok (n : Nat) : EntOk Tryz.prog (ents n) (spec_l14Holds_ent n) := by
  intro hs ar y hg h
  replace h : spec_l14Holds_D n ar = some y := h
  unfold spec_l14Holds_D at h
  replace h := ocons_some h
  obtain ⟨a0, r0, rfl, h⟩ := h
  replace h := ocons_some h
  obtain ⟨a1, r1, rfl, h⟩ := h
  replace h := onil_some h
  obtain ⟨rfl, h⟩ := h
  obtain ⟨x0, qh0, h⟩ := obind_some h
  obtain ⟨who1, qh1, h⟩ := obind_some h
  rw [argV_eq ok qh0, argV_eq ok qh1]
  exact call_of (phiE_nat _ _) hs ok mixed Tryz.func64 (c := spec_l14Holds_code) (by kernel_rfl) (spec_l14Holds_lo n) (by kernel_rfl) (by kernel_rfl) (by kernel_rfl) spec_l14Holds_de ((spec_l14Holds_tie n x0 who1).trans h)
noncomputable def spec_l14Do_code : Code := match Tryz.f40.body with | some c => c | none => .skip
def spec_l14Do_ann : Ann := fun id => none
def spec_l14Do_Ls (n : Nat) : Nat → Option (LSpec T) := fun id => none
theorem spec_l14Do_tie (n : Nat) (x0 : SBill) (op1 : SBillOp) : evF (T := T) (Phi n 23) (spec_l14Do_Ls n) spec_l14Do_ann n Tryz.f40 (sg 40) [vA T 64 x0, vA T 51 op1] spec_l14Do_dec = spec_l14Do n x0 op1 := by kernel_rfl
theorem spec_l14Do_lo (n : Nat) : LoopsOk (T := T) (Phi n 23) (spec_l14Do_Ls n) spec_l14Do_ann n spec_l14Do_code := loopsOk_all (cs := []) (by kernel_rfl) trivial
theorem spec_l14Do_ok (n : Nat) : EntOk Tryz.prog (ents n) (spec_l14Do_ent n) := by
  intro hs ar y hg h
  replace h : spec_l14Do_D n ar = some y := h
  unfold spec_l14Do_D at h
  replace h := ocons_some h
  obtain ⟨a0, r0, rfl, h⟩ := h
  replace h := ocons_some h
  obtain ⟨a1, r1, rfl, h⟩ := h
  replace h := onil_some h
  obtain ⟨rfl, h⟩ := h
  obtain ⟨x0, qh0, h⟩ := obind_some h
  obtain ⟨op1, qh1, h⟩ := obind_some h
  rw [argV_eq ok qh0, argV_eq ok qh1]
  exact call_of (phiE_nat _ _) hs ok mixed Tryz.func40 (c := spec_l14Do_code) (by kernel_rfl) (spec_l14Do_lo n) (by kernel_rfl) (by kernel_rfl) (by kernel_rfl) spec_l14Do_de ((spec_l14Do_tie n x0 op1).trans h)
noncomputable def spec_DoBill_code : Code := match Tryz.f22.body with | some c => c | none => .skip
def spec_DoBill_9_sv : List Sv := [.one (.ptr 24 0 0), .one (.ptr 32 0 0), .one (.ptr 48 0 0), .one (.int .i64)]
def spec_DoBill_9_so : List So := [.var [.int .i64, .int .i64, .str, .str, .int .i64, .int .i64], .var [.own 3000000 64 false, .own 3000001 3 false], .arr 64 false, .arr 3 false, .var [.own 3000002 64 false, .own 3000003 3 false], .arr 64 false, .arr 3 false]
def spec_DoBill_9_emb (c : SBillOp × List SBill × List Int × List SBill × List Int) (x : Int) : EVs T spec_DoBill_9_sv × EOs T spec_DoBill_9_so := (((), (), (), x, ()), ((c.1.Kind, c.1.Id, c.1.Who, c.1.To, c.1.Number, c.1.Many, ()), ((), (), ()), c.2.1, c.2.2.1, ((), (), ()), c.2.2.2.1, c.2.2.2.2, ()))
def spec_DoBill_9_prj (y : EVs T spec_DoBill_9_sv × EOs T spec_DoBill_9_so) : (SBillOp × List SBill × List Int × List SBill × List Int) × Int := ((((⟨y.2.1.1, y.2.1.2.1, y.2.1.2.2.1, y.2.1.2.2.2.1, y.2.1.2.2.2.2.1, y.2.1.2.2.2.2.2.1⟩ : SBillOp) : SBillOp), y.2.2.2.1, y.2.2.2.2.1, y.2.2.2.2.2.2.1, y.2.2.2.2.2.2.2.1), (y.1.2.2.2.1))
def spec_DoBill_9_b (n : Nat) {R : Type} (K : Ex → Sm.St T → Option R) (c : SBillOp × List SBill × List Int × List SBill × List Int) (x : Int) (J : Int → Option R) : Option R :=
  spec_DoBill_L9 n (fun (y0 : Int) => K (.exit 0) (stOf (T := T) [3, 4, 6, 8] [24, 32, 3000000, 3000001, 48, 3000002, 3000003] [.one (.ptr 24 0 0), .one (.ptr 32 0 0), .one (.ptr 48 0 0), .one (.int .i64)] [.var [.int .i64, .int .i64, .str, .str, .int .i64, .int .i64], .var [.own 3000000 64 false, .own 3000001 3 false], .arr 64 false, .arr 3 false, .var [.own 3000002 64 false, .own 3000003 3 false], .arr 64 false, .arr 3 false] ((), (), (), y0, ()) ((c.1.Kind, c.1.Id, c.1.Who, c.1.To, c.1.Number, c.1.Many, ()), ((), (), ()), c.2.1, c.2.2.1, ((), (), ()), c.2.2.2.1, c.2.2.2.2, ()))) J x c.1 c.2.1 c.2.2.1 c.2.2.2.1 c.2.2.2.2
def spec_DoBill_9_sp (n : Nat) : LSpec T := mkSpec T ⟨[((.cell 32 0), 3000000, 64), ((.cell 32 1), 3000001, 3), ((.cell 48 0), 3000002, 64), ((.cell 48 1), 3000003, 3)], [3, 4, 6, 8], [24, 32, 3000000, 3000001, 48, 3000002, 3000003]⟩ spec_DoBill_9_sv spec_DoBill_9_so (SBillOp × List SBill × List Int × List SBill × List Int) (Int) spec_DoBill_9_emb spec_DoBill_9_prj (spec_DoBill_9_b n)
noncomputable def spec_DoBill_9_c : Code := ((loopCodes spec_DoBill_code)[0]?).getD .skip
def spec_DoBill_25_sv : List Sv := [.one (.ptr 24 0 0), .one (.ptr 32 0 0), .one (.ptr 48 0 0), .one (.int .i64)]
def spec_DoBill_25_so : List So := [.var [.int .i64, .int .i64, .str, .str, .int .i64, .int .i64], .var [.own 3000000 64 false, .own 3000001 3 false], .arr 64 false, .arr 3 false, .var [.own 3000002 64 false, .own 3000003 3 false], .arr 64 false, .arr 3 false]
def spec_DoBill_25_emb (c : SBillOp × List SBill × List Int × List SBill × List Int) (x : Int) : EVs T spec_DoBill_25_sv × EOs T spec_DoBill_25_so := (((), (), (), x, ()), ((c.1.Kind, c.1.Id, c.1.Who, c.1.To, c.1.Number, c.1.Many, ()), ((), (), ()), c.2.1, c.2.2.1, ((), (), ()), c.2.2.2.1, c.2.2.2.2, ()))
def spec_DoBill_25_prj (y : EVs T spec_DoBill_25_sv × EOs T spec_DoBill_25_so) : (SBillOp × List SBill × List Int × List SBill × List Int) × Int := ((((⟨y.2.1.1, y.2.1.2.1, y.2.1.2.2.1, y.2.1.2.2.2.1, y.2.1.2.2.2.2.1, y.2.1.2.2.2.2.2.1⟩ : SBillOp) : SBillOp), y.2.2.2.1, y.2.2.2.2.1, y.2.2.2.2.2.2.1, y.2.2.2.2.2.2.2.1), (y.1.2.2.2.1))
def spec_DoBill_25_b (n : Nat) {R : Type} (K : Ex → Sm.St T → Option R) (c : SBillOp × List SBill × List Int × List SBill × List Int) (x : Int) (J : Int → Option R) : Option R :=
  spec_DoBill_L25 n (fun (y0 : Int) => K (.exit 2) (stOf (T := T) [3, 4, 6, 13] [24, 32, 3000000, 3000001, 48, 3000002, 3000003] [.one (.ptr 24 0 0), .one (.ptr 32 0 0), .one (.ptr 48 0 0), .one (.int .i64)] [.var [.int .i64, .int .i64, .str, .str, .int .i64, .int .i64], .var [.own 3000000 64 false, .own 3000001 3 false], .arr 64 false, .arr 3 false, .var [.own 3000002 64 false, .own 3000003 3 false], .arr 64 false, .arr 3 false] ((), (), (), y0, ()) ((c.1.Kind, c.1.Id, c.1.Who, c.1.To, c.1.Number, c.1.Many, ()), ((), (), ()), c.2.1, c.2.2.1, ((), (), ()), c.2.2.2.1, c.2.2.2.2, ()))) J x c.1 c.2.1 c.2.2.1 c.2.2.2.1 c.2.2.2.2
def spec_DoBill_25_sp (n : Nat) : LSpec T := mkSpec T ⟨[((.cell 32 0), 3000000, 64), ((.cell 32 1), 3000001, 3), ((.cell 48 0), 3000002, 64), ((.cell 48 1), 3000003, 3)], [3, 4, 6, 13], [24, 32, 3000000, 3000001, 48, 3000002, 3000003]⟩ spec_DoBill_25_sv spec_DoBill_25_so (SBillOp × List SBill × List Int × List SBill × List Int) (Int) spec_DoBill_25_emb spec_DoBill_25_prj (spec_DoBill_25_b n)
noncomputable def spec_DoBill_25_c : Code := ((loopCodes spec_DoBill_code)[1]?).getD .skip
def spec_DoBill_ann : Ann := fun id => bif Nat.beq id 3000009 then some ⟨[((.cell 32 0), 3000000, 64), ((.cell 32 1), 3000001, 3), ((.cell 48 0), 3000002, 64), ((.cell 48 1), 3000003, 3)], [3, 4, 6, 8], [24, 32, 3000000, 3000001, 48, 3000002, 3000003]⟩ else bif Nat.beq id 5000025 then some ⟨[((.cell 32 0), 3000000, 64), ((.cell 32 1), 3000001, 3), ((.cell 48 0), 3000002, 64), ((.cell 48 1), 3000003, 3)], [3, 4, 6, 13], [24, 32, 3000000, 3000001, 48, 3000002, 3000003]⟩ else none
def spec_DoBill_Ls (n : Nat) : Nat → Option (LSpec T) := fun id => bif Nat.beq id 9 then some (spec_DoBill_9_sp n) else bif Nat.beq id 25 then some (spec_DoBill_25_sp n) else none
theorem spec_DoBill_9_le (n : Nat) : LoopEq (T := T) (Phi n 24) (spec_DoBill_Ls n) spec_DoBill_ann n spec_DoBill_9_c (spec_DoBill_9_sp n) := ⟨mkSpec_dec (fun y => rfl), fun c x => by kernel_rfl, fun K J c x => by kernel_rfl⟩
theorem spec_DoBill_25_le (n : Nat) : LoopEq (T := T) (Phi n 24) (spec_DoBill_Ls n) spec_DoBill_ann n spec_DoBill_25_c (spec_DoBill_25_sp n) := ⟨mkSpec_dec (fun y => rfl), fun c x => by kernel_rfl, fun K J c x => by kernel_rfl⟩
theorem spec_DoBill_tie (n : Nat) (b0 : SBook) (op1 : SBillOp) : evF (T := T) (Phi n 24) (spec_DoBill_Ls n) spec_DoBill_ann n Tryz.f22 (sg 22) [vA T 31 b0, vA T 51 op1] spec_DoBill_dec = spec_DoBill n b0 op1 := by kernel_rfl
theorem spec_DoBill_lo (n : Nat) : LoopsOk (T := T) (Phi n 24) (spec_DoBill_Ls n) spec_DoBill_ann n spec_DoBill_code := loopsOk_all (cs := [spec_DoBill_9_c, spec_DoBill_25_c]) (by kernel_rfl) ⟨⟨_, by kernel_rfl, spec_DoBill_9_le n⟩, ⟨_, by kernel_rfl, spec_DoBill_25_le n⟩, trivial⟩
theorem spec_DoBill_ok (n : Nat) : EntOk Tryz.prog (ents n) (spec_DoBill_ent n) := by
  intro hs ar y hg h
  replace h : spec_DoBill_D n ar = some y := h
  unfold spec_DoBill_D at h
  replace h := ocons_some h
  obtain ⟨a0, r0, rfl, h⟩ := h
  replace h := ocons_some h
  obtain ⟨a1, r1, rfl, h⟩ := h
  replace h := onil_some h
  obtain ⟨rfl, h⟩ := h
  obtain ⟨b0, qh0, h⟩ := obind_some h
  obtain ⟨op1, qh1, h⟩ := obind_some h
  rw [argV_eq ok qh0, argV_eq ok qh1]
  exact call_of (phiE_nat _ _) hs ok mixed Tryz.func22 (c := spec_DoBill_code) (by kernel_rfl) (spec_DoBill_lo n) (by kernel_rfl) (by kernel_rfl) (by kernel_rfl) spec_DoBill_de ((spec_DoBill_tie n b0 op1).trans h)
noncomputable def spec_RunBills_code : Code := match Tryz.f6.body with | some c => c | none => .skip
def spec_RunBills_4_sv : List Sv := [.one (.arr 51), .one (.ptr 32 0 0), .one (.ptr 48 0 0), .one (.own 3000000 3 false), .one (.int .i64)]
def spec_RunBills_4_so : List So := [.var [.own 3000001 64 false, .own 3000002 3 false], .arr 64 false, .arr 3 false, .var [.own 3000003 64 false, .own 3000004 3 false], .arrS 64, .arrS 3, .arr 3 false]
def spec_RunBills_4_emb (c : List SBillOp × List SBill × List Int) (x : Int × List SBill × List Int × List Int) : EVs T spec_RunBills_4_sv × EOs T spec_RunBills_4_so := ((c.1, (), (), (), x.1, ()), (((), (), ()), c.2.1, c.2.2, ((), (), ()), x.2.1, x.2.2.1, x.2.2.2, ()))
def spec_RunBills_4_prj (y : EVs T spec_RunBills_4_sv × EOs T spec_RunBills_4_so) : (List SBillOp × List SBill × List Int) × (Int × List SBill × List Int × List Int) := ((y.1.1, y.2.2.1, y.2.2.2.1), (y.1.2.2.2.2.1, y.2.2.2.2.2.1, y.2.2.2.2.2.2.1, y.2.2.2.2.2.2.2.1))
def spec_RunBills_4_b (n : Nat) {R : Type} (K : Ex → Sm.St T → Option R) (c : List SBillOp × List SBill × List Int) (x : Int × List SBill × List Int × List Int) (J : (Int × List SBill × List Int × List Int) → Option R) : Option R :=
  spec_RunBills_L4 n (fun (y2 : List SBill) (y3 : List Int) (y4 : List Int) => K (.exit 0) (stOf (T := T) [4, 6, 7] [32, 3000001, 3000002, 48, 3000003, 3000004, 3000000] [.one (.ptr 32 0 0), .one (.ptr 48 0 0), .one (.own 3000000 3 false)] [.var [.own 3000001 64 false, .own 3000002 3 false], .arr 64 false, .arr 3 false, .var [.own 3000003 64 false, .own 3000004 3 false], .arrS 64, .arrS 3, .arr 3 false] ((), (), (), ()) (((), (), ()), c.2.1, c.2.2, ((), (), ()), y2, y3, y4, ()))) (fun z0 z1 z2 z3 => J (z0, z1, z2, z3)) c.1 x.1 c.2.1 c.2.2 x.2.1 x.2.2.1 x.2.2.2
def spec_RunBills_4_sp (n : Nat) : LSpec T := mkSpec T ⟨[((.reg 7), 3000000, 3), ((.cell 32 0), 3000001, 64), ((.cell 32 1), 3000002, 3), ((.cell 48 0), 3000003, 64), ((.cell 48 1), 3000004, 3), ((.cell 48 0), 0, 999998), ((.cell 48 1), 0, 999998)], [1, 4, 6, 7, 8], [32, 3000001, 3000002, 48, 3000003, 3000004, 3000000]⟩ spec_RunBills_4_sv spec_RunBills_4_so (List SBillOp × List SBill × List Int) (Int × List SBill × List Int × List Int) spec_RunBills_4_emb spec_RunBills_4_prj (spec_RunBills_4_b n)
noncomputable def spec_RunBills_4_c : Code := ((loopCodes spec_RunBills_code)[0]?).getD .skip
def spec_RunBills_ann : Ann := fun id => bif Nat.beq id 3000004 then some ⟨[((.reg 7), 3000000, 3), ((.cell 32 0), 3000001, 64), ((.cell 32 1), 3000002, 3), ((.cell 48 0), 3000003, 64), ((.cell 48 1), 3000004, 3)], [4, 6, 7], [32, 3000001, 3000002, 48, 3000003, 3000004, 3000000]⟩ else none
def spec_RunBills_Ls (n : Nat) : Nat → Option (LSpec T) := fun id => bif Nat.beq id 4 then some (spec_RunBills_4_sp n) else none
theorem spec_RunBills_4_le (n : Nat) : LoopEq (T := T) (Phi n 25) (spec_RunBills_Ls n) spec_RunBills_ann n spec_RunBills_4_c (spec_RunBills_4_sp n) := ⟨mkSpec_dec (fun y => rfl), fun c x => by kernel_rfl, fun K J c x => by kernel_rfl⟩
theorem spec_RunBills_tie (n : Nat) (b0 : SBook) (ops1 : List SBillOp) : evF (T := T) (Phi n 25) (spec_RunBills_Ls n) spec_RunBills_ann n Tryz.f6 (sg 6) [vA T 31 b0, vA T 35 ops1] spec_RunBills_dec = spec_RunBills n b0 ops1 := by kernel_rfl
theorem spec_RunBills_lo (n : Nat) : LoopsOk (T := T) (Phi n 25) (spec_RunBills_Ls n) spec_RunBills_ann n spec_RunBills_code := loopsOk_all (cs := [spec_RunBills_4_c]) (by kernel_rfl) ⟨⟨_, by kernel_rfl, spec_RunBills_4_le n⟩, trivial⟩
theorem spec_RunBills_ok (n : Nat) : EntOk Tryz.prog (ents n) (spec_RunBills_ent n) := by
  intro hs ar y hg h
  replace h : spec_RunBills_D n ar = some y := h
  unfold spec_RunBills_D at h
  replace h := ocons_some h
  obtain ⟨a0, r0, rfl, h⟩ := h
  replace h := ocons_some h
  obtain ⟨a1, r1, rfl, h⟩ := h
  replace h := onil_some h
  obtain ⟨rfl, h⟩ := h
  obtain ⟨b0, qh0, h⟩ := obind_some h
  obtain ⟨ops1, qh1, h⟩ := obind_some h
  rw [argV_eq ok qh0, argV_eq ok qh1]
  exact call_of (phiE_nat _ _) hs ok mixed Tryz.func6 (c := spec_RunBills_code) (by kernel_rfl) (spec_RunBills_lo n) (by kernel_rfl) (by kernel_rfl) (by kernel_rfl) spec_RunBills_de ((spec_RunBills_tie n b0 ops1).trans h)
noncomputable def impl_own_impl_Bill_code : Code := match Tryz.f42.body with | some c => c | none => .skip
def impl_own_impl_Bill_ann : Ann := fun id => none
def impl_own_impl_Bill_Ls (n : Nat) : Nat → Option (LSpec T) := fun id => none
theorem impl_own_impl_Bill_tie (n : Nat) (l0 : List SBill) : evF (T := T) (Phi n 26) (impl_own_impl_Bill_Ls n) impl_own_impl_Bill_ann n Tryz.f42 (sg 42) [vA T 29 l0] impl_own_impl_Bill_dec = impl_own_impl_Bill n l0 := by kernel_rfl
theorem impl_own_impl_Bill_lo (n : Nat) : LoopsOk (T := T) (Phi n 26) (impl_own_impl_Bill_Ls n) impl_own_impl_Bill_ann n impl_own_impl_Bill_code := loopsOk_all (cs := []) (by kernel_rfl) trivial
theorem impl_own_impl_Bill_ok (n : Nat) : EntOk Tryz.prog (ents n) (impl_own_impl_Bill_ent n) := by
  intro hs ar y hg h
  replace h : impl_own_impl_Bill_D n ar = some y := h
  unfold impl_own_impl_Bill_D at h
  replace h := ocons_some h
  obtain ⟨a0, r0, rfl, h⟩ := h
  replace h := onil_some h
  obtain ⟨rfl, h⟩ := h
  obtain ⟨l0, qh0, h⟩ := obind_some h
  rw [argV_eq ok qh0]
  exact call_of (phiE_nat _ _) hs ok mixed Tryz.func42 (c := impl_own_impl_Bill_code) (by kernel_rfl) (impl_own_impl_Bill_lo n) (by kernel_rfl) (by kernel_rfl) (by kernel_rfl) impl_own_impl_Bill_de ((impl_own_impl_Bill_tie n l0).trans h)
noncomputable def impl_own_string_code : Code := match Tryz.f43.body with | some c => c | none => .skip
def impl_own_string_ann : Ann := fun id => none
def impl_own_string_Ls (n : Nat) : Nat → Option (LSpec T) := fun id => none
theorem impl_own_string_tie (n : Nat) (l0 : List ByteArray) : evF (T := T) (Phi n 27) (impl_own_string_Ls n) impl_own_string_ann n Tryz.f43 (sg 43) [vA T 61 l0] impl_own_string_dec = impl_own_string n l0 := by kernel_rfl
theorem impl_own_string_lo (n : Nat) : LoopsOk (T := T) (Phi n 27) (impl_own_string_Ls n) impl_own_string_ann n impl_own_string_code := loopsOk_all (cs := []) (by kernel_rfl) trivial
theorem impl_own_string_ok (n : Nat) : EntOk Tryz.prog (ents n) (impl_own_string_ent n) := by
  intro hs ar y hg h
  replace h : impl_own_string_D n ar = some y := h
  unfold impl_own_string_D at h
  replace h := ocons_some h
  obtain ⟨a0, r0, rfl, h⟩ := h
  replace h := onil_some h
  obtain ⟨rfl, h⟩ := h
  obtain ⟨l0, qh0, h⟩ := obind_some h
  rw [argV_eq ok qh0]
  exact call_of (phiE_nat _ _) hs ok mixed Tryz.func43 (c := impl_own_string_code) (by kernel_rfl) (impl_own_string_lo n) (by kernel_rfl) (by kernel_rfl) (by kernel_rfl) impl_own_string_de ((impl_own_string_tie n l0).trans h)
noncomputable def impl_own_int_code : Code := match Tryz.f28.body with | some c => c | none => .skip
def impl_own_int_ann : Ann := fun id => none
def impl_own_int_Ls (n : Nat) : Nat → Option (LSpec T) := fun id => none
theorem impl_own_int_tie (n : Nat) (l0 : List Int) : evF (T := T) (Phi n 28) (impl_own_int_Ls n) impl_own_int_ann n Tryz.f28 (sg 28) [vA T 23 l0] impl_own_int_dec = impl_own_int n l0 := by kernel_rfl
theorem impl_own_int_lo (n : Nat) : LoopsOk (T := T) (Phi n 28) (impl_own_int_Ls n) impl_own_int_ann n impl_own_int_code := loopsOk_all (cs := []) (by kernel_rfl) trivial
theorem impl_own_int_ok (n : Nat) : EntOk Tryz.prog (ents n) (impl_own_int_ent n) := by
  intro hs ar y hg h
  replace h : impl_own_int_D n ar = some y := h
  unfold impl_own_int_D at h
  replace h := ocons_some h
  obtain ⟨a0, r0, rfl, h⟩ := h
  replace h := onil_some h
  obtain ⟨rfl, h⟩ := h
  obtain ⟨l0, qh0, h⟩ := obind_some h
  rw [argV_eq ok qh0]
  exact call_of (phiE_nat _ _) hs ok mixed Tryz.func28 (c := impl_own_int_code) (by kernel_rfl) (impl_own_int_lo n) (by kernel_rfl) (by kernel_rfl) (by kernel_rfl) impl_own_int_de ((impl_own_int_tie n l0).trans h)
noncomputable def impl_Book_own_code : Code := match Tryz.f26.body with | some c => c | none => .skip
def impl_Book_own_3_sv : List Sv := [.one (.ptr 8 0 0), .one (.ptr 16 0 0), .one (.own 3000000 64 false), .one (.int .i64), .one (.int .i64)]
def impl_Book_own_3_so : List So := [.var [.arr 64, .arr 3], .var [.own 3000001 64 false, .own 3000002 3 false], .arr 64 false, .arr 3 false, .arrU 64 false]
def impl_Book_own_3_emb (c : Int × SBook × List SBill × List Int) (x : Int × ((List SBill) × Nat)) : EVs T impl_Book_own_3_sv × EOs T impl_Book_own_3_so := (((), (), (), c.1, x.1, ()), ((c.2.1.Bills, c.2.1.Freed, ()), ((), (), ()), c.2.2.1, c.2.2.2, x.2, ()))
def impl_Book_own_3_prj (y : EVs T impl_Book_own_3_sv × EOs T impl_Book_own_3_so) : (Int × SBook × List SBill × List Int) × (Int × ((List SBill) × Nat)) := ((y.1.2.2.2.1, ((⟨y.2.1.1, y.2.1.2.1⟩ : SBook) : SBook), y.2.2.2.1, y.2.2.2.2.1), (y.1.2.2.2.2.1, y.2.2.2.2.2.1))
def impl_Book_own_3_b (n : Nat) {R : Type} (K : Ex → Sm.St T → Option R) (c : Int × SBook × List SBill × List Int) (x : Int × ((List SBill) × Nat)) (J : (Int × ((List SBill) × Nat)) → Option R) : Option R :=
  impl_Book_own_L3 n (fun (y3 : (List SBill) × Nat) => K (.exit 0) (stOf (T := T) [1, 2, 3] [8, 16, 3000001, 3000002, 3000000] [.one (.ptr 8 0 0), .one (.ptr 16 0 0), .one (.own 3000000 64 false)] [.var [.arr 64, .arr 3], .var [.own 3000001 64 false, .own 3000002 3 false], .arr 64 false, .arr 3 false, .arrU 64 false] ((), (), (), ()) ((c.2.1.Bills, c.2.1.Freed, ()), ((), (), ()), c.2.2.1, c.2.2.2, y3, ()))) (fun z0 z1 => J (z0, z1)) c.1 x.1 c.2.1 c.2.2.1 c.2.2.2 x.2
def impl_Book_own_3_sp (n : Nat) : LSpec T := mkSpec T ⟨[((.reg 3), 3000000, 64), ((.cell 16 0), 3000001, 64), ((.cell 16 1), 3000002, 3)], [1, 2, 3, 9, 10], [8, 16, 3000001, 3000002, 3000000]⟩ impl_Book_own_3_sv impl_Book_own_3_so (Int × SBook × List SBill × List Int) (Int × ((List SBill) × Nat)) impl_Book_own_3_emb impl_Book_own_3_prj (impl_Book_own_3_b n)
noncomputable def impl_Book_own_3_c : Code := ((loopCodes impl_Book_own_code)[0]?).getD .skip
def impl_Book_own_ann : Ann := fun id => bif Nat.beq id 3000003 then some ⟨[((.reg 3), 3000000, 64), ((.cell 16 0), 3000001, 64), ((.cell 16 1), 3000002, 3)], [1, 2, 3], [8, 16, 3000001, 3000002, 3000000]⟩ else none
def impl_Book_own_Ls (n : Nat) : Nat → Option (LSpec T) := fun id => bif Nat.beq id 3 then some (impl_Book_own_3_sp n) else none
theorem impl_Book_own_3_le (n : Nat) : LoopEq (T := T) (Phi n 29) (impl_Book_own_Ls n) impl_Book_own_ann n impl_Book_own_3_c (impl_Book_own_3_sp n) := ⟨mkSpec_dec (fun y => rfl), fun c x => by kernel_rfl, fun K J c x => by kernel_rfl⟩
theorem impl_Book_own_tie (n : Nat) (b0 : SBook) : evF (T := T) (Phi n 29) (impl_Book_own_Ls n) impl_Book_own_ann n Tryz.f26 (sg 26) [vA T 31 b0] impl_Book_own_dec = impl_Book_own n b0 := by kernel_rfl
theorem impl_Book_own_lo (n : Nat) : LoopsOk (T := T) (Phi n 29) (impl_Book_own_Ls n) impl_Book_own_ann n impl_Book_own_code := loopsOk_all (cs := [impl_Book_own_3_c]) (by kernel_rfl) ⟨⟨_, by kernel_rfl, impl_Book_own_3_le n⟩, trivial⟩
theorem impl_Book_own_ok (n : Nat) : EntOk Tryz.prog (ents n) (impl_Book_own_ent n) := by
  intro hs ar y hg h
  replace h : impl_Book_own_D n ar = some y := h
  unfold impl_Book_own_D at h
  replace h := ocons_some h
  obtain ⟨a0, r0, rfl, h⟩ := h
  replace h := onil_some h
  obtain ⟨rfl, h⟩ := h
  obtain ⟨b0, qh0, h⟩ := obind_some h
  rw [argV_eq ok qh0]
  exact call_of (phiE_nat _ _) hs ok mixed Tryz.func26 (c := impl_Book_own_code) (by kernel_rfl) (impl_Book_own_lo n) (by kernel_rfl) (by kernel_rfl) (by kernel_rfl) impl_Book_own_de ((impl_Book_own_tie n b0).trans h)
noncomputable def impl_nameOk_code : Code := match Tryz.f44.body with | some c => c | none => .skip
def impl_nameOk_4_sv : List Sv := [.one (.str), .one (.int .i64), .one (.int .i64)]
def impl_nameOk_4_so : List So := []
def impl_nameOk_4_emb (c : ByteArray × Int) (x : Int) : EVs T impl_nameOk_4_sv × EOs T impl_nameOk_4_so := ((c.1, c.2, x, ()), ())
def impl_nameOk_4_prj (y : EVs T impl_nameOk_4_sv × EOs T impl_nameOk_4_so) : (ByteArray × Int) × Int := ((y.1.1, y.1.2.1), (y.1.2.2.1))
def impl_nameOk_4_b (n : Nat) {R : Type} (K : Ex → Sm.St T → Option R) (c : ByteArray × Int) (x : Int) (J : Int → Option R) : Option R :=
  impl_nameOk_L4 n (K (.exit 0) (stOf (T := T) [] [] [] [] () ())) (fun (y0 : Bool) => K .ret (stOf (T := T) [2] [] [.one (.bool)] [] (y0, ()) ())) J c.1 c.2 x
def impl_nameOk_4_sp (n : Nat) : LSpec T := mkSpec T ⟨[], [0, 14, 15], []⟩ impl_nameOk_4_sv impl_nameOk_4_so (ByteArray × Int) (Int) impl_nameOk_4_emb impl_nameOk_4_prj (impl_nameOk_4_b n)
noncomputable def impl_nameOk_4_c : Code := ((loopCodes impl_nameOk_code)[0]?).getD .skip
def impl_nameOk_ann : Ann := fun id => bif Nat.beq id 3000004 then some ⟨[], [], []⟩ else bif Nat.beq id 2000004 then some ⟨[], [2], []⟩ else none
def impl_nameOk_Ls (n : Nat) : Nat → Option (LSpec T) := fun id => bif Nat.beq id 4 then some (impl_nameOk_4_sp n) else none
theorem impl_nameOk_4_le (n : Nat) : LoopEq (T := T) (Phi n 30) (impl_nameOk_Ls n) impl_nameOk_ann n impl_nameOk_4_c (impl_nameOk_4_sp n) := ⟨mkSpec_dec (fun y => rfl), fun c x => by kernel_rfl, fun K J c x => by kernel_rfl⟩
theorem impl_nameOk_tie (n : Nat) (s0 : ByteArray) : evF (T := T) (Phi n 30) (impl_nameOk_Ls n) impl_nameOk_ann n Tryz.f44 (sg 44) [vA T 9 s0] impl_nameOk_dec = impl_nameOk n s0 := by kernel_rfl
theorem impl_nameOk_lo (n : Nat) : LoopsOk (T := T) (Phi n 30) (impl_nameOk_Ls n) impl_nameOk_ann n impl_nameOk_code := loopsOk_all (cs := [impl_nameOk_4_c]) (by kernel_rfl) ⟨⟨_, by kernel_rfl, impl_nameOk_4_le n⟩, trivial⟩
theorem impl_nameOk_ok (n : Nat) : EntOk Tryz.prog (ents n) (impl_nameOk_ent n) := by
  intro hs ar y hg h
  replace h : impl_nameOk_D n ar = some y := h
  unfold impl_nameOk_D at h
  replace h := ocons_some h
  obtain ⟨a0, r0, rfl, h⟩ := h
  replace h := onil_some h
  obtain ⟨rfl, h⟩ := h
  obtain ⟨s0, qh0, h⟩ := obind_some h
  rw [argV_eq ok qh0]
  exact call_of (phiE_nat _ _) hs ok mixed Tryz.func44 (c := impl_nameOk_code) (by kernel_rfl) (impl_nameOk_lo n) (by kernel_rfl) (by kernel_rfl) (by kernel_rfl) impl_nameOk_de ((impl_nameOk_tie n s0).trans h)
noncomputable def impl_in_code : Code := match Tryz.f47.body with | some c => c | none => .skip
def impl_in_ann : Ann := fun id => none
def impl_in_Ls (n : Nat) : Nat → Option (LSpec T) := fun id => none
theorem impl_in_tie (n : Nat) (n0 : Int) (least1 : Int) (most2 : Int) : evF (T := T) (Phi n 31) (impl_in_Ls n) impl_in_ann n Tryz.f47 (sg 47) [vA T 3 n0, vA T 3 least1, vA T 3 most2] impl_in_dec = impl_in n n0 least1 most2 := by kernel_rfl
theorem impl_in_lo (n : Nat) : LoopsOk (T := T) (Phi n 31) (impl_in_Ls n) impl_in_ann n impl_in_code := loopsOk_all (cs := []) (by kernel_rfl) trivial
theorem impl_in_ok (n : Nat) : EntOk Tryz.prog (ents n) (impl_in_ent n) := by
  intro hs ar y hg h
  replace h : impl_in_D n ar = some y := h
  unfold impl_in_D at h
  replace h := ocons_some h
  obtain ⟨a0, r0, rfl, h⟩ := h
  replace h := ocons_some h
  obtain ⟨a1, r1, rfl, h⟩ := h
  replace h := ocons_some h
  obtain ⟨a2, r2, rfl, h⟩ := h
  replace h := onil_some h
  obtain ⟨rfl, h⟩ := h
  obtain ⟨n0, qh0, h⟩ := obind_some h
  obtain ⟨least1, qh1, h⟩ := obind_some h
  obtain ⟨most2, qh2, h⟩ := obind_some h
  rw [argV_eq ok qh0, argV_eq ok qh1, argV_eq ok qh2]
  exact call_of (phiE_nat _ _) hs ok mixed Tryz.func47 (c := impl_in_code) (by kernel_rfl) (impl_in_lo n) (by kernel_rfl) (by kernel_rfl) (by kernel_rfl) impl_in_de ((impl_in_tie n n0 least1 most2).trans h)
noncomputable def impl_idRight_code : Code := match Tryz.f48.body with | some c => c | none => .skip
def impl_idRight_ann : Ann := fun id => none
def impl_idRight_Ls (n : Nat) : Nat → Option (LSpec T) := fun id => none
theorem impl_idRight_tie (n : Nat) (n0 : Int) : evF (T := T) (Phi n 32) (impl_idRight_Ls n) impl_idRight_ann n Tryz.f48 (sg 48) [vA T 3 n0] impl_idRight_dec = impl_idRight n n0 := by kernel_rfl
theorem impl_idRight_lo (n : Nat) : LoopsOk (T := T) (Phi n 32) (impl_idRight_Ls n) impl_idRight_ann n impl_idRight_code := loopsOk_all (cs := []) (by kernel_rfl) trivial
theorem impl_idRight_ok (n : Nat) : EntOk Tryz.prog (ents n) (impl_idRight_ent n) := by
  intro hs ar y hg h
  replace h : impl_idRight_D n ar = some y := h
  unfold impl_idRight_D at h
  replace h := ocons_some h
  obtain ⟨a0, r0, rfl, h⟩ := h
  replace h := onil_some h
  obtain ⟨rfl, h⟩ := h
  obtain ⟨n0, qh0, h⟩ := obind_some h
  rw [argV_eq ok qh0]
  exact call_of (phiE_nat _ _) hs ok mixed Tryz.func48 (c := impl_idRight_code) (by kernel_rfl) (impl_idRight_lo n) (by kernel_rfl) (by kernel_rfl) (by kernel_rfl) impl_idRight_de ((impl_idRight_tie n n0).trans h)
noncomputable def impl_emptyOrName_code : Code := match Tryz.f45.body with | some c => c | none => .skip
def impl_emptyOrName_ann : Ann := fun id => none
def impl_emptyOrName_Ls (n : Nat) : Nat → Option (LSpec T) := fun id => none
theorem impl_emptyOrName_tie (n : Nat) (s0 : ByteArray) : evF (T := T) (Phi n 33) (impl_emptyOrName_Ls n) impl_emptyOrName_ann n Tryz.f45 (sg 45) [vA T 9 s0] impl_emptyOrName_dec = impl_emptyOrName n s0 := by kernel_rfl
theorem impl_emptyOrName_lo (n : Nat) : LoopsOk (T := T) (Phi n 33) (impl_emptyOrName_Ls n) impl_emptyOrName_ann n impl_emptyOrName_code := loopsOk_all (cs := []) (by kernel_rfl) trivial
theorem impl_emptyOrName_ok (n : Nat) : EntOk Tryz.prog (ents n) (impl_emptyOrName_ent n) := by
  intro hs ar y hg h
  replace h : impl_emptyOrName_D n ar = some y := h
  unfold impl_emptyOrName_D at h
  replace h := ocons_some h
  obtain ⟨a0, r0, rfl, h⟩ := h
  replace h := onil_some h
  obtain ⟨rfl, h⟩ := h
  obtain ⟨s0, qh0, h⟩ := obind_some h
  rw [argV_eq ok qh0]
  exact call_of (phiE_nat _ _) hs ok mixed Tryz.func45 (c := impl_emptyOrName_code) (by kernel_rfl) (impl_emptyOrName_lo n) (by kernel_rfl) (by kernel_rfl) (by kernel_rfl) impl_emptyOrName_de ((impl_emptyOrName_tie n s0).trans h)
noncomputable def impl_BookOk_1_code : Code := match Tryz.f66.body with | some c => c | none => .skip
def impl_BookOk_1_ann : Ann := fun id => none
def impl_BookOk_1_Ls (n : Nat) : Nat → Option (LSpec T) := fun id => none
theorem impl_BookOk_1_tie (n : Nat) (s0 : ByteArray) : evF (T := T) (Phi n 34) (impl_BookOk_1_Ls n) impl_BookOk_1_ann n Tryz.f66 (sg 66) [vA T 9 s0] impl_BookOk_1_dec = impl_BookOk_1 n s0 := by kernel_rfl
theorem impl_BookOk_1_lo (n : Nat) : LoopsOk (T := T) (Phi n 34) (impl_BookOk_1_Ls n) impl_BookOk_1_ann n impl_BookOk_1_code := loopsOk_all (cs := []) (by kernel_rfl) trivial
theorem impl_BookOk_1_ok (n : Nat) : EntOk Tryz.prog (ents n) (impl_BookOk_1_ent n) := by
  intro hs ar y hg h
  replace h : impl_BookOk_1_D n ar = some y := h
  unfold impl_BookOk_1_D at h
  replace h := ocons_some h
  obtain ⟨a0, r0, rfl, h⟩ := h
  replace h := onil_some h
  obtain ⟨rfl, h⟩ := h
  obtain ⟨s0, qh0, h⟩ := obind_some h
  rw [argV_eq ok qh0]
  exact call_of (phiE_nat _ _) hs ok mixed Tryz.func66 (c := impl_BookOk_1_code) (by kernel_rfl) (impl_BookOk_1_lo n) (by kernel_rfl) (by kernel_rfl) (by kernel_rfl) impl_BookOk_1_de ((impl_BookOk_1_tie n s0).trans h)
noncomputable def slices_IndexFunc_string_string__impl_BookOk_1_code : Code := match Tryz.f73.body with | some c => c | none => .skip
def slices_IndexFunc_string_string__impl_BookOk_1_2_sv : List Sv := [.one (.arr 9), .one (.fn 66 []), .one (.int .i64), .one (.int .i64)]
def slices_IndexFunc_string_string__impl_BookOk_1_2_so : List So := []
def slices_IndexFunc_string_string__impl_BookOk_1_2_emb (c : List ByteArray × Int) (x : Int) : EVs T slices_IndexFunc_string_string__impl_BookOk_1_2_sv × EOs T slices_IndexFunc_string_string__impl_BookOk_1_2_so := ((c.1, (), c.2, x, ()), ())
def slices_IndexFunc_string_string__impl_BookOk_1_2_prj (y : EVs T slices_IndexFunc_string_string__impl_BookOk_1_2_sv × EOs T slices_IndexFunc_string_string__impl_BookOk_1_2_so) : (List ByteArray × Int) × Int := ((y.1.1, y.1.2.2.1), (y.1.2.2.2.1))
def slices_IndexFunc_string_string__impl_BookOk_1_2_b (n : Nat) {R : Type} (K : Ex → Sm.St T → Option R) (c : List ByteArray × Int) (x : Int) (J : Int → Option R) : Option R :=
  slices_IndexFunc_string_string__impl_BookOk_1_L2 n (K (.exit 0) (stOf (T := T) [] [] [] [] () ())) (fun (y0 : Int) => K .ret (stOf (T := T) [4] [] [.one (.int .i64)] [] (y0, ()) ())) J c.1 c.2 x
def slices_IndexFunc_string_string__impl_BookOk_1_2_sp (n : Nat) : LSpec T := mkSpec T ⟨[], [0, 1, 7, 8], []⟩ slices_IndexFunc_string_string__impl_BookOk_1_2_sv slices_IndexFunc_string_string__impl_BookOk_1_2_so (List ByteArray × Int) (Int) slices_IndexFunc_string_string__impl_BookOk_1_2_emb slices_IndexFunc_string_string__impl_BookOk_1_2_prj (slices_IndexFunc_string_string__impl_BookOk_1_2_b n)
noncomputable def slices_IndexFunc_string_string__impl_BookOk_1_2_c : Code := ((loopCodes slices_IndexFunc_string_string__impl_BookOk_1_code)[0]?).getD .skip
def slices_IndexFunc_string_string__impl_BookOk_1_ann : Ann := fun id => bif Nat.beq id 3000002 then some ⟨[], [], []⟩ else bif Nat.beq id 2000002 then some ⟨[], [4], []⟩ else none
def slices_IndexFunc_string_string__impl_BookOk_1_Ls (n : Nat) : Nat → Option (LSpec T) := fun id => bif Nat.beq id 2 then some (slices_IndexFunc_string_string__impl_BookOk_1_2_sp n) else none
theorem slices_IndexFunc_string_string__impl_BookOk_1_2_le (n : Nat) : LoopEq (T := T) (Phi n 35) (slices_IndexFunc_string_string__impl_BookOk_1_Ls n) slices_IndexFunc_string_string__impl_BookOk_1_ann n slices_IndexFunc_string_string__impl_BookOk_1_2_c (slices_IndexFunc_string_string__impl_BookOk_1_2_sp n) := ⟨mkSpec_dec (fun y => rfl), fun c x => by kernel_rfl, fun K J c x => by kernel_rfl⟩
theorem slices_IndexFunc_string_string__impl_BookOk_1_tie (n : Nat) (s0 : List ByteArray) : evF (T := T) (Phi n 35) (slices_IndexFunc_string_string__impl_BookOk_1_Ls n) slices_IndexFunc_string_string__impl_BookOk_1_ann n Tryz.f73 (sg 73) [vA T 61 s0, .fn 66 []] slices_IndexFunc_string_string__impl_BookOk_1_dec = slices_IndexFunc_string_string__impl_BookOk_1 n s0 := by kernel_rfl
theorem slices_IndexFunc_string_string__impl_BookOk_1_lo (n : Nat) : LoopsOk (T := T) (Phi n 35) (slices_IndexFunc_string_string__impl_BookOk_1_Ls n) slices_IndexFunc_string_string__impl_BookOk_1_ann n slices_IndexFunc_string_string__impl_BookOk_1_code := loopsOk_all (cs := [slices_IndexFunc_string_string__impl_BookOk_1_2_c]) (by kernel_rfl) ⟨⟨_, by kernel_rfl, slices_IndexFunc_string_string__impl_BookOk_1_2_le n⟩, trivial⟩
theorem slices_IndexFunc_string_string__impl_BookOk_1_ok (n : Nat) : EntOk Tryz.prog (ents n) (slices_IndexFunc_string_string__impl_BookOk_1_ent n) := by
  intro hs ar y hg h
  replace h : slices_IndexFunc_string_string__impl_BookOk_1_D n ar = some y := h
  unfold slices_IndexFunc_string_string__impl_BookOk_1_D at h
  split at h
  · obtain ⟨s0, qh0, h⟩ := obind_some h
    rw [argV_eq ok qh0] at hg ⊢
    cases (show [_] = [66] from natsEq_eq hg)
    exact call_of (phiE_nat _ _) hs ok mixed Tryz.func73 (c := slices_IndexFunc_string_string__impl_BookOk_1_code) (by kernel_rfl) (slices_IndexFunc_string_string__impl_BookOk_1_lo n) (by kernel_rfl) (by kernel_rfl) (by kernel_rfl) slices_IndexFunc_string_string__impl_BookOk_1_de ((slices_IndexFunc_string_string__impl_BookOk_1_tie n s0).trans h)
  · cases h
noncomputable def slices_ContainsFunc_string_string__impl_BookOk_1_code : Code := match Tryz.f55.body with | some c => c | none => .skip
def slices_ContainsFunc_string_string__impl_BookOk_1_ann : Ann := fun id => none
def slices_ContainsFunc_string_string__impl_BookOk_1_Ls (n : Nat) : Nat → Option (LSpec T) := fun id => none
theorem slices_ContainsFunc_string_string__impl_BookOk_1_tie (n : Nat) (s0 : List ByteArray) : evF (T := T) (Phi n 36) (slices_ContainsFunc_string_string__impl_BookOk_1_Ls n) slices_ContainsFunc_string_string__impl_BookOk_1_ann n Tryz.f55 (sg 55) [vA T 61 s0, .fn 66 []] slices_ContainsFunc_string_string__impl_BookOk_1_dec = slices_ContainsFunc_string_string__impl_BookOk_1 n s0 := by kernel_rfl
theorem slices_ContainsFunc_string_string__impl_BookOk_1_lo (n : Nat) : LoopsOk (T := T) (Phi n 36) (slices_ContainsFunc_string_string__impl_BookOk_1_Ls n) slices_ContainsFunc_string_string__impl_BookOk_1_ann n slices_ContainsFunc_string_string__impl_BookOk_1_code := loopsOk_all (cs := []) (by kernel_rfl) trivial
theorem slices_ContainsFunc_string_string__impl_BookOk_1_ok (n : Nat) : EntOk Tryz.prog (ents n) (slices_ContainsFunc_string_string__impl_BookOk_1_ent n) := by
  intro hs ar y hg h
  replace h : slices_ContainsFunc_string_string__impl_BookOk_1_D n ar = some y := h
  unfold slices_ContainsFunc_string_string__impl_BookOk_1_D at h
  split at h
  · obtain ⟨s0, qh0, h⟩ := obind_some h
    rw [argV_eq ok qh0] at hg ⊢
    cases (show [_] = [66] from natsEq_eq hg)
    exact call_of (phiE_nat _ _) hs ok mixed Tryz.func55 (c := slices_ContainsFunc_string_string__impl_BookOk_1_code) (by kernel_rfl) (slices_ContainsFunc_string_string__impl_BookOk_1_lo n) (by kernel_rfl) (by kernel_rfl) (by kernel_rfl) slices_ContainsFunc_string_string__impl_BookOk_1_de ((slices_ContainsFunc_string_string__impl_BookOk_1_tie n s0).trans h)
  · cases h
noncomputable def impl_BookOk_code : Code := match Tryz.f46.body with | some c => c | none => .skip
def impl_BookOk_5_sv : List Sv := [.one (.ptr 8 0 0), .one (.map 96), .one (.arr 64), .one (.int .i64), .one (.int .i64)]
def impl_BookOk_5_so : List So := [.var [.arr 64, .arr 3], .map 3 4]
def impl_BookOk_5_emb (c : List SBill × Int × SBook) (x : Int × (List (Int × Bool))) : EVs T impl_BookOk_5_sv × EOs T impl_BookOk_5_so := (((), (), c.1, c.2.1, x.1, ()), ((c.2.2.Bills, c.2.2.Freed, ()), x.2, ()))
def impl_BookOk_5_prj (y : EVs T impl_BookOk_5_sv × EOs T impl_BookOk_5_so) : (List SBill × Int × SBook) × (Int × (List (Int × Bool))) := ((y.1.2.2.1, y.1.2.2.2.1, ((⟨y.2.1.1, y.2.1.2.1⟩ : SBook) : SBook)), (y.1.2.2.2.2.1, y.2.2.1))
def impl_BookOk_5_b (n : Nat) {R : Type} (K : Ex → Sm.St T → Option R) (c : List SBill × Int × SBook) (x : Int × (List (Int × Bool))) (J : (Int × (List (Int × Bool))) → Option R) : Option R :=
  impl_BookOk_L5 n (fun (y1 : List (Int × Bool)) => K (.exit 0) (stOf (T := T) [1, 3] [8, 96] [.one (.ptr 8 0 0), .one (.map 96)] [.var [.arr 64, .arr 3], .map 3 4] ((), (), ()) ((c.2.2.Bills, c.2.2.Freed, ()), y1, ()))) (fun (y0 : Bool) => K .ret (stOf (T := T) [2] [] [.one (.bool)] [] (y0, ()) ())) (fun z0 z1 => J (z0, z1)) c.1 c.2.1 x.1 c.2.2 x.2
def impl_BookOk_5_sp (n : Nat) : LSpec T := mkSpec T ⟨[], [1, 3, 14, 15, 16], [8, 96]⟩ impl_BookOk_5_sv impl_BookOk_5_so (List SBill × Int × SBook) (Int × (List (Int × Bool))) impl_BookOk_5_emb impl_BookOk_5_prj (impl_BookOk_5_b n)
noncomputable def impl_BookOk_5_c : Code := ((loopCodes impl_BookOk_code)[0]?).getD .skip
def impl_BookOk_12_sv : List Sv := [.one (.ptr 8 0 0), .one (.map 96), .one (.arr 3), .one (.int .i64), .one (.int .i64)]
def impl_BookOk_12_so : List So := [.var [.arr 64, .arr 3], .map 3 4]
def impl_BookOk_12_emb (c : List Int × Int × SBook × (List (Int × Bool))) (x : Int) : EVs T impl_BookOk_12_sv × EOs T impl_BookOk_12_so := (((), (), c.1, c.2.1, x, ()), ((c.2.2.1.Bills, c.2.2.1.Freed, ()), c.2.2.2, ()))
def impl_BookOk_12_prj (y : EVs T impl_BookOk_12_sv × EOs T impl_BookOk_12_so) : (List Int × Int × SBook × (List (Int × Bool))) × Int := ((y.1.2.2.1, y.1.2.2.2.1, ((⟨y.2.1.1, y.2.1.2.1⟩ : SBook) : SBook), y.2.2.1), (y.1.2.2.2.2.1))
def impl_BookOk_12_b (n : Nat) {R : Type} (K : Ex → Sm.St T → Option R) (c : List Int × Int × SBook × (List (Int × Bool))) (x : Int) (J : Int → Option R) : Option R :=
  impl_BookOk_L12 n (K (.exit 2) (stOf (T := T) [] [] [] [] () ())) (fun (y0 : Bool) => K .ret (stOf (T := T) [2] [] [.one (.bool)] [] (y0, ()) ())) J c.1 c.2.1 x c.2.2.1 c.2.2.2
def impl_BookOk_12_sp (n : Nat) : LSpec T := mkSpec T ⟨[], [1, 3, 77, 78, 79], [8, 96]⟩ impl_BookOk_12_sv impl_BookOk_12_so (List Int × Int × SBook × (List (Int × Bool))) (Int) impl_BookOk_12_emb impl_BookOk_12_prj (impl_BookOk_12_b n)
noncomputable def impl_BookOk_12_c : Code := ((loopCodes impl_BookOk_code)[1]?).getD .skip
def impl_BookOk_ann : Ann := fun id => bif Nat.beq id 3000005 then some ⟨[], [1, 3], [8, 96]⟩ else bif Nat.beq id 2000005 then some ⟨[], [2], []⟩ else bif Nat.beq id 5000012 then some ⟨[], [], []⟩ else bif Nat.beq id 2000012 then some ⟨[], [2], []⟩ else none
def impl_BookOk_Ls (n : Nat) : Nat → Option (LSpec T) := fun id => bif Nat.beq id 5 then some (impl_BookOk_5_sp n) else bif Nat.beq id 12 then some (impl_BookOk_12_sp n) else none
theorem impl_BookOk_5_le (n : Nat) : LoopEq (T := T) (Phi n 37) (impl_BookOk_Ls n) impl_BookOk_ann n impl_BookOk_5_c (impl_BookOk_5_sp n) := ⟨mkSpec_dec (fun y => rfl), fun c x => by kernel_rfl, fun K J c x => by kernel_rfl⟩
theorem impl_BookOk_12_le (n : Nat) : LoopEq (T := T) (Phi n 37) (impl_BookOk_Ls n) impl_BookOk_ann n impl_BookOk_12_c (impl_BookOk_12_sp n) := ⟨mkSpec_dec (fun y => rfl), fun c x => by kernel_rfl, fun K J c x => by kernel_rfl⟩
theorem impl_BookOk_tie (n : Nat) (b0 : SBook) : evF (T := T) (Phi n 37) (impl_BookOk_Ls n) impl_BookOk_ann n Tryz.f46 (sg 46) [vA T 31 b0] impl_BookOk_dec = impl_BookOk n b0 := by kernel_rfl
theorem impl_BookOk_lo (n : Nat) : LoopsOk (T := T) (Phi n 37) (impl_BookOk_Ls n) impl_BookOk_ann n impl_BookOk_code := loopsOk_all (cs := [impl_BookOk_5_c, impl_BookOk_12_c]) (by kernel_rfl) ⟨⟨_, by kernel_rfl, impl_BookOk_5_le n⟩, ⟨_, by kernel_rfl, impl_BookOk_12_le n⟩, trivial⟩
theorem impl_BookOk_ok (n : Nat) : EntOk Tryz.prog (ents n) (impl_BookOk_ent n) := by
  intro hs ar y hg h
  replace h : impl_BookOk_D n ar = some y := h
  unfold impl_BookOk_D at h
  replace h := ocons_some h
  obtain ⟨a0, r0, rfl, h⟩ := h
  replace h := onil_some h
  obtain ⟨rfl, h⟩ := h
  obtain ⟨b0, qh0, h⟩ := obind_some h
  rw [argV_eq ok qh0]
  exact call_of (phiE_nat _ _) hs ok mixed Tryz.func46 (c := impl_BookOk_code) (by kernel_rfl) (impl_BookOk_lo n) (by kernel_rfl) (by kernel_rfl) (by kernel_rfl) impl_BookOk_de ((impl_BookOk_tie n b0).trans h)
noncomputable def impl_Book_at_1_code : Code := match Tryz.f68.body with | some c => c | none => .skip
def impl_Book_at_1_ann : Ann := fun id => none
def impl_Book_at_1_Ls (n : Nat) : Nat → Option (LSpec T) := fun id => none
theorem impl_Book_at_1_tie (n : Nat) (x0 : SBill) (a1 : Int) : evF (T := T) (Phi n 38) (impl_Book_at_1_Ls n) impl_Book_at_1_ann n Tryz.f68 (sg 68) [vA T 64 x0, .ptr 3 a1] impl_Book_at_1_dec = impl_Book_at_1 n x0 a1 := by kernel_rfl
theorem impl_Book_at_1_lo (n : Nat) : LoopsOk (T := T) (Phi n 38) (impl_Book_at_1_Ls n) impl_Book_at_1_ann n impl_Book_at_1_code := loopsOk_all (cs := []) (by kernel_rfl) trivial
theorem impl_Book_at_1_ok (n : Nat) : EntOk Tryz.prog (ents n) (impl_Book_at_1_ent n) := by
  intro hs ar y hg h
  replace h : impl_Book_at_1_D n ar = some y := h
  unfold impl_Book_at_1_D at h
  replace h := ocons_some h
  obtain ⟨a0, r0, rfl, h⟩ := h
  replace h := ocons_some h
  obtain ⟨a1, r1, rfl, h⟩ := h
  replace h := onil_some h
  obtain ⟨rfl, h⟩ := h
  obtain ⟨x0, qh0, h⟩ := obind_some h
  obtain ⟨a1, qh1, h⟩ := obind_some h
  rw [argV_eq ok qh0, argP_eq qh1]
  exact call_of (phiE_nat _ _) hs ok mixed Tryz.func68 (c := impl_Book_at_1_code) (by kernel_rfl) (impl_Book_at_1_lo n) (by kernel_rfl) (by kernel_rfl) (by kernel_rfl) impl_Book_at_1_de ((impl_Book_at_1_tie n x0 a1).trans h)
noncomputable def slices_IndexFunc_impl_Bill_impl_Bill__impl_Book_at_1_code : Code := match Tryz.f67.body with | some c => c | none => .skip
def slices_IndexFunc_impl_Bill_impl_Bill__impl_Book_at_1_2_sv : List Sv := [.one (.arr 64), .one (.fnr 68 [3]), .one (.int .i64), .one (.int .i64)]
def slices_IndexFunc_impl_Bill_impl_Bill__impl_Book_at_1_2_so : List So := []
def slices_IndexFunc_impl_Bill_impl_Bill__impl_Book_at_1_2_emb (c : List SBill × Int × Int) (x : Int) : EVs T slices_IndexFunc_impl_Bill_impl_Bill__impl_Book_at_1_2_sv × EOs T slices_IndexFunc_impl_Bill_impl_Bill__impl_Book_at_1_2_so := ((c.1, (c.2.1, ()), c.2.2, x, ()), ())
def slices_IndexFunc_impl_Bill_impl_Bill__impl_Book_at_1_2_prj (y : EVs T slices_IndexFunc_impl_Bill_impl_Bill__impl_Book_at_1_2_sv × EOs T slices_IndexFunc_impl_Bill_impl_Bill__impl_Book_at_1_2_so) : (List SBill × Int × Int) × Int := ((y.1.1, y.1.2.1.1, y.1.2.2.1), (y.1.2.2.2.1))
def slices_IndexFunc_impl_Bill_impl_Bill__impl_Book_at_1_2_b (n : Nat) {R : Type} (K : Ex → Sm.St T → Option R) (c : List SBill × Int × Int) (x : Int) (J : Int → Option R) : Option R :=
  slices_IndexFunc_impl_Bill_impl_Bill__impl_Book_at_1_L2 n (K (.exit 0) (stOf (T := T) [] [] [] [] () ())) (fun (y0 : Int) => K .ret (stOf (T := T) [4] [] [.one (.int .i64)] [] (y0, ()) ())) J c.1 c.2.1 c.2.2 x
def slices_IndexFunc_impl_Bill_impl_Bill__impl_Book_at_1_2_sp (n : Nat) : LSpec T := mkSpec T ⟨[], [0, 1, 7, 8], []⟩ slices_IndexFunc_impl_Bill_impl_Bill__impl_Book_at_1_2_sv slices_IndexFunc_impl_Bill_impl_Bill__impl_Book_at_1_2_so (List SBill × Int × Int) (Int) slices_IndexFunc_impl_Bill_impl_Bill__impl_Book_at_1_2_emb slices_IndexFunc_impl_Bill_impl_Bill__impl_Book_at_1_2_prj (slices_IndexFunc_impl_Bill_impl_Bill__impl_Book_at_1_2_b n)
noncomputable def slices_IndexFunc_impl_Bill_impl_Bill__impl_Book_at_1_2_c : Code := ((loopCodes slices_IndexFunc_impl_Bill_impl_Bill__impl_Book_at_1_code)[0]?).getD .skip
def slices_IndexFunc_impl_Bill_impl_Bill__impl_Book_at_1_ann : Ann := fun id => bif Nat.beq id 3000002 then some ⟨[], [], []⟩ else bif Nat.beq id 2000002 then some ⟨[], [4], []⟩ else none
def slices_IndexFunc_impl_Bill_impl_Bill__impl_Book_at_1_Ls (n : Nat) : Nat → Option (LSpec T) := fun id => bif Nat.beq id 2 then some (slices_IndexFunc_impl_Bill_impl_Bill__impl_Book_at_1_2_sp n) else none
theorem slices_IndexFunc_impl_Bill_impl_Bill__impl_Book_at_1_2_le (n : Nat) : LoopEq (T := T) (Phi n 39) (slices_IndexFunc_impl_Bill_impl_Bill__impl_Book_at_1_Ls n) slices_IndexFunc_impl_Bill_impl_Bill__impl_Book_at_1_ann n slices_IndexFunc_impl_Bill_impl_Bill__impl_Book_at_1_2_c (slices_IndexFunc_impl_Bill_impl_Bill__impl_Book_at_1_2_sp n) := ⟨mkSpec_dec (fun y => rfl), fun c x => by kernel_rfl, fun K J c x => by kernel_rfl⟩
theorem slices_IndexFunc_impl_Bill_impl_Bill__impl_Book_at_1_tie (n : Nat) (s0 : List SBill) (f1c0 : Int) : evF (T := T) (Phi n 39) (slices_IndexFunc_impl_Bill_impl_Bill__impl_Book_at_1_Ls n) slices_IndexFunc_impl_Bill_impl_Bill__impl_Book_at_1_ann n Tryz.f67 (sg 67) [vA T 29 s0, .fn 68 [.ptr 3 f1c0]] slices_IndexFunc_impl_Bill_impl_Bill__impl_Book_at_1_dec = slices_IndexFunc_impl_Bill_impl_Bill__impl_Book_at_1 n s0 f1c0 := by kernel_rfl
theorem slices_IndexFunc_impl_Bill_impl_Bill__impl_Book_at_1_lo (n : Nat) : LoopsOk (T := T) (Phi n 39) (slices_IndexFunc_impl_Bill_impl_Bill__impl_Book_at_1_Ls n) slices_IndexFunc_impl_Bill_impl_Bill__impl_Book_at_1_ann n slices_IndexFunc_impl_Bill_impl_Bill__impl_Book_at_1_code := loopsOk_all (cs := [slices_IndexFunc_impl_Bill_impl_Bill__impl_Book_at_1_2_c]) (by kernel_rfl) ⟨⟨_, by kernel_rfl, slices_IndexFunc_impl_Bill_impl_Bill__impl_Book_at_1_2_le n⟩, trivial⟩
theorem slices_IndexFunc_impl_Bill_impl_Bill__impl_Book_at_1_ok (n : Nat) : EntOk Tryz.prog (ents n) (slices_IndexFunc_impl_Bill_impl_Bill__impl_Book_at_1_ent n) := by
  intro hs ar y hg h
  replace h : slices_IndexFunc_impl_Bill_impl_Bill__impl_Book_at_1_D n ar = some y := h
  unfold slices_IndexFunc_impl_Bill_impl_Bill__impl_Book_at_1_D at h
  split at h
  · obtain ⟨s0, qh0, h⟩ := obind_some h
    obtain ⟨f1c0, qh1, h⟩ := obind_some h
    rw [argV_eq ok qh0, argP_eq qh1] at hg ⊢
    cases (show [_] = [68] from natsEq_eq hg)
    exact call_of (phiE_nat _ _) hs ok mixed Tryz.func67 (c := slices_IndexFunc_impl_Bill_impl_Bill__impl_Book_at_1_code) (by kernel_rfl) (slices_IndexFunc_impl_Bill_impl_Bill__impl_Book_at_1_lo n) (by kernel_rfl) (by kernel_rfl) (by kernel_rfl) slices_IndexFunc_impl_Bill_impl_Bill__impl_Book_at_1_de ((slices_IndexFunc_impl_Bill_impl_Bill__impl_Book_at_1_tie n s0 f1c0).trans h)
  · cases h
noncomputable def impl_Book_at_code : Code := match Tryz.f49.body with | some c => c | none => .skip
def impl_Book_at_ann : Ann := fun id => none
def impl_Book_at_Ls (n : Nat) : Nat → Option (LSpec T) := fun id => none
theorem impl_Book_at_tie (n : Nat) (b0 : SBook) (id1 : Int) : evF (T := T) (Phi n 40) (impl_Book_at_Ls n) impl_Book_at_ann n Tryz.f49 (sg 49) [vA T 31 b0, vA T 3 id1] impl_Book_at_dec = impl_Book_at n b0 id1 := by kernel_rfl
theorem impl_Book_at_lo (n : Nat) : LoopsOk (T := T) (Phi n 40) (impl_Book_at_Ls n) impl_Book_at_ann n impl_Book_at_code := loopsOk_all (cs := []) (by kernel_rfl) trivial
theorem impl_Book_at_ok (n : Nat) : EntOk Tryz.prog (ents n) (impl_Book_at_ent n) := by
  intro hs ar y hg h
  replace h : impl_Book_at_D n ar = some y := h
  unfold impl_Book_at_D at h
  replace h := ocons_some h
  obtain ⟨a0, r0, rfl, h⟩ := h
  replace h := ocons_some h
  obtain ⟨a1, r1, rfl, h⟩ := h
  replace h := onil_some h
  obtain ⟨rfl, h⟩ := h
  obtain ⟨b0, qh0, h⟩ := obind_some h
  obtain ⟨id1, qh1, h⟩ := obind_some h
  rw [argV_eq ok qh0, argV_eq ok qh1]
  exact call_of (phiE_nat _ _) hs ok mixed Tryz.func49 (c := impl_Book_at_code) (by kernel_rfl) (impl_Book_at_lo n) (by kernel_rfl) (by kernel_rfl) (by kernel_rfl) impl_Book_at_de ((impl_Book_at_tie n b0 id1).trans h)
noncomputable def impl_heldBy_code : Code := match Tryz.f50.body with | some c => c | none => .skip
def impl_heldBy_3_sv : List Sv := [.one (.str), .one (.own 3000000 9 false), .one (.int .i64), .one (.int .i64)]
def impl_heldBy_3_so : List So := [.arr 9 false]
def impl_heldBy_3_emb (c : ByteArray × Int) (x : Int × List ByteArray) : EVs T impl_heldBy_3_sv × EOs T impl_heldBy_3_so := ((c.1, (), c.2, x.1, ()), (x.2, ()))
def impl_heldBy_3_prj (y : EVs T impl_heldBy_3_sv × EOs T impl_heldBy_3_so) : (ByteArray × Int) × (Int × List ByteArray) := ((y.1.1, y.1.2.2.1), (y.1.2.2.2.1, y.2.1))
def impl_heldBy_3_b (n : Nat) {R : Type} (K : Ex → Sm.St T → Option R) (c : ByteArray × Int) (x : Int × List ByteArray) (J : (Int × List ByteArray) → Option R) : Option R :=
  impl_heldBy_L3 n (fun (y0 : List ByteArray) => K (.exit 0) (stOf (T := T) [5] [3000000] [.one (.own 3000000 9 false)] [.arr 9 false] ((), ()) (y0, ()))) (fun z0 z1 => J (z0, z1)) c.1 c.2 x.1 x.2
def impl_heldBy_3_sp (n : Nat) : LSpec T := mkSpec T ⟨[((.reg 5), 3000000, 9)], [0, 5, 10, 11], [3000000]⟩ impl_heldBy_3_sv impl_heldBy_3_so (ByteArray × Int) (Int × List ByteArray) impl_heldBy_3_emb impl_heldBy_3_prj (impl_heldBy_3_b n)
noncomputable def impl_heldBy_3_c : Code := ((loopCodes impl_heldBy_code)[0]?).getD .skip
def impl_heldBy_ann : Ann := fun id => bif Nat.beq id 3000003 then some ⟨[((.reg 5), 3000000, 9)], [5], [3000000]⟩ else none
def impl_heldBy_Ls (n : Nat) : Nat → Option (LSpec T) := fun id => bif Nat.beq id 3 then some (impl_heldBy_3_sp n) else none
theorem impl_heldBy_3_le (n : Nat) : LoopEq (T := T) (Phi n 41) (impl_heldBy_Ls n) impl_heldBy_ann n impl_heldBy_3_c (impl_heldBy_3_sp n) := ⟨mkSpec_dec (fun y => rfl), fun c x => by kernel_rfl, fun K J c x => by kernel_rfl⟩
theorem impl_heldBy_tie (n : Nat) (who0 : ByteArray) (many1 : Int) : evF (T := T) (Phi n 41) (impl_heldBy_Ls n) impl_heldBy_ann n Tryz.f50 (sg 50) [vA T 9 who0, vA T 3 many1] impl_heldBy_dec = impl_heldBy n who0 many1 := by kernel_rfl
theorem impl_heldBy_lo (n : Nat) : LoopsOk (T := T) (Phi n 41) (impl_heldBy_Ls n) impl_heldBy_ann n impl_heldBy_code := loopsOk_all (cs := [impl_heldBy_3_c]) (by kernel_rfl) ⟨⟨_, by kernel_rfl, impl_heldBy_3_le n⟩, trivial⟩
theorem impl_heldBy_ok (n : Nat) : EntOk Tryz.prog (ents n) (impl_heldBy_ent n) := by
  intro hs ar y hg h
  replace h : impl_heldBy_D n ar = some y := h
  unfold impl_heldBy_D at h
  replace h := ocons_some h
  obtain ⟨a0, r0, rfl, h⟩ := h
  replace h := ocons_some h
  obtain ⟨a1, r1, rfl, h⟩ := h
  replace h := onil_some h
  obtain ⟨rfl, h⟩ := h
  obtain ⟨who0, qh0, h⟩ := obind_some h
  obtain ⟨many1, qh1, h⟩ := obind_some h
  rw [argV_eq ok qh0, argV_eq ok qh1]
  exact call_of (phiE_nat _ _) hs ok mixed Tryz.func50 (c := impl_heldBy_code) (by kernel_rfl) (impl_heldBy_lo n) (by kernel_rfl) (by kernel_rfl) (by kernel_rfl) impl_heldBy_de ((impl_heldBy_tie n who0 many1).trans h)
noncomputable def impl_DoBill_1_code : Code := match Tryz.f52.body with | some c => c | none => .skip
def impl_DoBill_1_ann : Ann := fun id => none
def impl_DoBill_1_Ls (n : Nat) : Nat → Option (LSpec T) := fun id => none
theorem impl_DoBill_1_tie (n : Nat) (a0 : SBill) (b1 : SBill) : evF (T := T) (Phi n 42) (impl_DoBill_1_Ls n) impl_DoBill_1_ann n Tryz.f52 (sg 52) [vA T 64 a0, vA T 64 b1] impl_DoBill_1_dec = impl_DoBill_1 n a0 b1 := by kernel_rfl
theorem impl_DoBill_1_lo (n : Nat) : LoopsOk (T := T) (Phi n 42) (impl_DoBill_1_Ls n) impl_DoBill_1_ann n impl_DoBill_1_code := loopsOk_all (cs := []) (by kernel_rfl) trivial
theorem impl_DoBill_1_ok (n : Nat) : EntOk Tryz.prog (ents n) (impl_DoBill_1_ent n) := by
  intro hs ar y hg h
  replace h : impl_DoBill_1_D n ar = some y := h
  unfold impl_DoBill_1_D at h
  replace h := ocons_some h
  obtain ⟨a0, r0, rfl, h⟩ := h
  replace h := ocons_some h
  obtain ⟨a1, r1, rfl, h⟩ := h
  replace h := onil_some h
  obtain ⟨rfl, h⟩ := h
  obtain ⟨a0, qh0, h⟩ := obind_some h
  obtain ⟨b1, qh1, h⟩ := obind_some h
  rw [argV_eq ok qh0, argV_eq ok qh1]
  exact call_of (phiE_nat _ _) hs ok mixed Tryz.func52 (c := impl_DoBill_1_code) (by kernel_rfl) (impl_DoBill_1_lo n) (by kernel_rfl) (by kernel_rfl) (by kernel_rfl) impl_DoBill_1_de ((impl_DoBill_1_tie n a0 b1).trans h)
theorem slices_SortFunc_impl_Bill_impl_Bill__impl_DoBill_1_cl (n : Nat) (x y : U 64) : PhiE (T := T) (ents n) 43 52 [vA T 64 x, vA T 64 y] some = (impl_DoBill_1 n x y).bind fun r => some (impl_DoBill_1_enc r) := by kernel_rfl
theorem slices_SortFunc_impl_Bill_impl_Bill__impl_DoBill_1_ok (n : Nat) : EntOk Tryz.prog (ents n) (slices_SortFunc_impl_Bill_impl_Bill__impl_DoBill_1_ent n) := by
  intro hs ar y hg h
  replace h : slices_SortFunc_impl_Bill_impl_Bill__impl_DoBill_1_D n ar = some y := h
  unfold slices_SortFunc_impl_Bill_impl_Bill__impl_DoBill_1_D at h
  split at h
  · obtain ⟨l0, qh0, h⟩ := obind_some h
    rw [argV_eq ok qh0] at hg ⊢
    cases (show [_] = [52] from natsEq_eq hg)
    refine sortL_call ok lay51 (e := 64) (g := 52) (caps := []) (by kernel_rfl) (by kernel_rfl) (by decide) (by kernel_rfl) (by kernel_rfl) (by kernel_rfl) (by kernel_rfl) (fun x y c hc => ?_) h
    have h1 : PhiE (T := T) (ents n) 43 52 [vA T 64 x, vA T 64 y] some = some (impl_DoBill_1_enc c) := (slices_SortFunc_impl_Bill_impl_Bill__impl_DoBill_1_cl n x y).trans (by rw [show impl_DoBill_1 n x y = some c from hc]; rfl)
    obtain ⟨res, h2, h3⟩ := hs _ _ _ _ h1
    cases h3
    exact h2
  · cases h
noncomputable def slices_Index_int_int_code : Code := match Tryz.f71.body with | some c => c | none => .skip
def slices_Index_int_int_2_sv : List Sv := [.one (.arr 3), .one (.int .i64), .one (.int .i64), .one (.int .i64)]
def slices_Index_int_int_2_so : List So := []
def slices_Index_int_int_2_emb (c : List Int × Int × Int) (x : Int) : EVs T slices_Index_int_int_2_sv × EOs T slices_Index_int_int_2_so := ((c.1, c.2.1, c.2.2, x, ()), ())
def slices_Index_int_int_2_prj (y : EVs T slices_Index_int_int_2_sv × EOs T slices_Index_int_int_2_so) : (List Int × Int × Int) × Int := ((y.1.1, y.1.2.1, y.1.2.2.1), (y.1.2.2.2.1))
def slices_Index_int_int_2_b (n : Nat) {R : Type} (K : Ex → Sm.St T → Option R) (c : List Int × Int × Int) (x : Int) (J : Int → Option R) : Option R :=
  slices_Index_int_int_L2 n (K (.exit 0) (stOf (T := T) [] [] [] [] () ())) (fun (y0 : Int) => K .ret (stOf (T := T) [4] [] [.one (.int .i64)] [] (y0, ()) ())) J c.1 c.2.1 c.2.2 x
def slices_Index_int_int_2_sp (n : Nat) : LSpec T := mkSpec T ⟨[], [0, 1, 7, 8], []⟩ slices_Index_int_int_2_sv slices_Index_int_int_2_so (List Int × Int × Int) (Int) slices_Index_int_int_2_emb slices_Index_int_int_2_prj (slices_Index_int_int_2_b n)
noncomputable def slices_Index_int_int_2_c : Code := ((loopCodes slices_Index_int_int_code)[0]?).getD .skip
def slices_Index_int_int_ann : Ann := fun id => bif Nat.beq id 3000002 then some ⟨[], [], []⟩ else bif Nat.beq id 2000002 then some ⟨[], [4], []⟩ else none
def slices_Index_int_int_Ls (n : Nat) : Nat → Option (LSpec T) := fun id => bif Nat.beq id 2 then some (slices_Index_int_int_2_sp n) else none
theorem slices_Index_int_int_2_le (n : Nat) : LoopEq (T := T) (Phi n 44) (slices_Index_int_int_Ls n) slices_Index_int_int_ann n slices_Index_int_int_2_c (slices_Index_int_int_2_sp n) := ⟨mkSpec_dec (fun y => rfl), fun c x => by kernel_rfl, fun K J c x => by kernel_rfl⟩
theorem slices_Index_int_int_tie (n : Nat) (s0 : List Int) (v1 : Int) : evF (T := T) (Phi n 44) (slices_Index_int_int_Ls n) slices_Index_int_int_ann n Tryz.f71 (sg 71) [vA T 23 s0, vA T 3 v1] slices_Index_int_int_dec = slices_Index_int_int n s0 v1 := by kernel_rfl
theorem slices_Index_int_int_lo (n : Nat) : LoopsOk (T := T) (Phi n 44) (slices_Index_int_int_Ls n) slices_Index_int_int_ann n slices_Index_int_int_code := loopsOk_all (cs := [slices_Index_int_int_2_c]) (by kernel_rfl) ⟨⟨_, by kernel_rfl, slices_Index_int_int_2_le n⟩, trivial⟩
theorem slices_Index_int_int_ok (n : Nat) : EntOk Tryz.prog (ents n) (slices_Index_int_int_ent n) := by
  intro hs ar y hg h
  replace h : slices_Index_int_int_D n ar = some y := h
  unfold slices_Index_int_int_D at h
  replace h := ocons_some h
  obtain ⟨a0, r0, rfl, h⟩ := h
  replace h := ocons_some h
  obtain ⟨a1, r1, rfl, h⟩ := h
  replace h := onil_some h
  obtain ⟨rfl, h⟩ := h
  obtain ⟨s0, qh0, h⟩ := obind_some h
  obtain ⟨v1, qh1, h⟩ := obind_some h
  rw [argV_eq ok qh0, argV_eq ok qh1]
  exact call_of (phiE_nat _ _) hs ok mixed Tryz.func71 (c := slices_Index_int_int_code) (by kernel_rfl) (slices_Index_int_int_lo n) (by kernel_rfl) (by kernel_rfl) (by kernel_rfl) slices_Index_int_int_de ((slices_Index_int_int_tie n s0 v1).trans h)
noncomputable def slices_Contains_int_int_code : Code := match Tryz.f53.body with | some c => c | none => .skip
def slices_Contains_int_int_ann : Ann := fun id => none
def slices_Contains_int_int_Ls (n : Nat) : Nat → Option (LSpec T) := fun id => none
theorem slices_Contains_int_int_tie (n : Nat) (s0 : List Int) (v1 : Int) : evF (T := T) (Phi n 45) (slices_Contains_int_int_Ls n) slices_Contains_int_int_ann n Tryz.f53 (sg 53) [vA T 23 s0, vA T 3 v1] slices_Contains_int_int_dec = slices_Contains_int_int n s0 v1 := by kernel_rfl
theorem slices_Contains_int_int_lo (n : Nat) : LoopsOk (T := T) (Phi n 45) (slices_Contains_int_int_Ls n) slices_Contains_int_int_ann n slices_Contains_int_int_code := loopsOk_all (cs := []) (by kernel_rfl) trivial
theorem slices_Contains_int_int_ok (n : Nat) : EntOk Tryz.prog (ents n) (slices_Contains_int_int_ent n) := by
  intro hs ar y hg h
  replace h : slices_Contains_int_int_D n ar = some y := h
  unfold slices_Contains_int_int_D at h
  replace h := ocons_some h
  obtain ⟨a0, r0, rfl, h⟩ := h
  replace h := ocons_some h
  obtain ⟨a1, r1, rfl, h⟩ := h
  replace h := onil_some h
  obtain ⟨rfl, h⟩ := h
  obtain ⟨s0, qh0, h⟩ := obind_some h
  obtain ⟨v1, qh1, h⟩ := obind_some h
  rw [argV_eq ok qh0, argV_eq ok qh1]
  exact call_of (phiE_nat _ _) hs ok mixed Tryz.func53 (c := slices_Contains_int_int_code) (by kernel_rfl) (slices_Contains_int_int_lo n) (by kernel_rfl) (by kernel_rfl) (by kernel_rfl) slices_Contains_int_int_de ((slices_Contains_int_int_tie n s0 v1).trans h)
noncomputable def slices_Index_string_string_code : Code := match Tryz.f72.body with | some c => c | none => .skip
def slices_Index_string_string_2_sv : List Sv := [.one (.arr 9), .one (.str), .one (.int .i64), .one (.int .i64)]
def slices_Index_string_string_2_so : List So := []
def slices_Index_string_string_2_emb (c : List ByteArray × ByteArray × Int) (x : Int) : EVs T slices_Index_string_string_2_sv × EOs T slices_Index_string_string_2_so := ((c.1, c.2.1, c.2.2, x, ()), ())
def slices_Index_string_string_2_prj (y : EVs T slices_Index_string_string_2_sv × EOs T slices_Index_string_string_2_so) : (List ByteArray × ByteArray × Int) × Int := ((y.1.1, y.1.2.1, y.1.2.2.1), (y.1.2.2.2.1))
def slices_Index_string_string_2_b (n : Nat) {R : Type} (K : Ex → Sm.St T → Option R) (c : List ByteArray × ByteArray × Int) (x : Int) (J : Int → Option R) : Option R :=
  slices_Index_string_string_L2 n (K (.exit 0) (stOf (T := T) [] [] [] [] () ())) (fun (y0 : Int) => K .ret (stOf (T := T) [4] [] [.one (.int .i64)] [] (y0, ()) ())) J c.1 c.2.1 c.2.2 x
def slices_Index_string_string_2_sp (n : Nat) : LSpec T := mkSpec T ⟨[], [0, 1, 7, 8], []⟩ slices_Index_string_string_2_sv slices_Index_string_string_2_so (List ByteArray × ByteArray × Int) (Int) slices_Index_string_string_2_emb slices_Index_string_string_2_prj (slices_Index_string_string_2_b n)
noncomputable def slices_Index_string_string_2_c : Code := ((loopCodes slices_Index_string_string_code)[0]?).getD .skip
def slices_Index_string_string_ann : Ann := fun id => bif Nat.beq id 3000002 then some ⟨[], [], []⟩ else bif Nat.beq id 2000002 then some ⟨[], [4], []⟩ else none
def slices_Index_string_string_Ls (n : Nat) : Nat → Option (LSpec T) := fun id => bif Nat.beq id 2 then some (slices_Index_string_string_2_sp n) else none
theorem slices_Index_string_string_2_le (n : Nat) : LoopEq (T := T) (Phi n 46) (slices_Index_string_string_Ls n) slices_Index_string_string_ann n slices_Index_string_string_2_c (slices_Index_string_string_2_sp n) := ⟨mkSpec_dec (fun y => rfl), fun c x => by kernel_rfl, fun K J c x => by kernel_rfl⟩
theorem slices_Index_string_string_tie (n : Nat) (s0 : List ByteArray) (v1 : ByteArray) : evF (T := T) (Phi n 46) (slices_Index_string_string_Ls n) slices_Index_string_string_ann n Tryz.f72 (sg 72) [vA T 61 s0, vA T 9 v1] slices_Index_string_string_dec = slices_Index_string_string n s0 v1 := by kernel_rfl
theorem slices_Index_string_string_lo (n : Nat) : LoopsOk (T := T) (Phi n 46) (slices_Index_string_string_Ls n) slices_Index_string_string_ann n slices_Index_string_string_code := loopsOk_all (cs := [slices_Index_string_string_2_c]) (by kernel_rfl) ⟨⟨_, by kernel_rfl, slices_Index_string_string_2_le n⟩, trivial⟩
theorem slices_Index_string_string_ok (n : Nat) : EntOk Tryz.prog (ents n) (slices_Index_string_string_ent n) := by
  intro hs ar y hg h
  replace h : slices_Index_string_string_D n ar = some y := h
  unfold slices_Index_string_string_D at h
  replace h := ocons_some h
  obtain ⟨a0, r0, rfl, h⟩ := h
  replace h := ocons_some h
  obtain ⟨a1, r1, rfl, h⟩ := h
  replace h := onil_some h
  obtain ⟨rfl, h⟩ := h
  obtain ⟨s0, qh0, h⟩ := obind_some h
  obtain ⟨v1, qh1, h⟩ := obind_some h
  rw [argV_eq ok qh0, argV_eq ok qh1]
  exact call_of (phiE_nat _ _) hs ok mixed Tryz.func72 (c := slices_Index_string_string_code) (by kernel_rfl) (slices_Index_string_string_lo n) (by kernel_rfl) (by kernel_rfl) (by kernel_rfl) slices_Index_string_string_de ((slices_Index_string_string_tie n s0 v1).trans h)
noncomputable def slices_Contains_string_string_code : Code := match Tryz.f54.body with | some c => c | none => .skip
def slices_Contains_string_string_ann : Ann := fun id => none
def slices_Contains_string_string_Ls (n : Nat) : Nat → Option (LSpec T) := fun id => none
theorem slices_Contains_string_string_tie (n : Nat) (s0 : List ByteArray) (v1 : ByteArray) : evF (T := T) (Phi n 47) (slices_Contains_string_string_Ls n) slices_Contains_string_string_ann n Tryz.f54 (sg 54) [vA T 61 s0, vA T 9 v1] slices_Contains_string_string_dec = slices_Contains_string_string n s0 v1 := by kernel_rfl
theorem slices_Contains_string_string_lo (n : Nat) : LoopsOk (T := T) (Phi n 47) (slices_Contains_string_string_Ls n) slices_Contains_string_string_ann n slices_Contains_string_string_code := loopsOk_all (cs := []) (by kernel_rfl) trivial
theorem slices_Contains_string_string_ok (n : Nat) : EntOk Tryz.prog (ents n) (slices_Contains_string_string_ent n) := by
  intro hs ar y hg h
  replace h : slices_Contains_string_string_D n ar = some y := h
  unfold slices_Contains_string_string_D at h
  replace h := ocons_some h
  obtain ⟨a0, r0, rfl, h⟩ := h
  replace h := ocons_some h
  obtain ⟨a1, r1, rfl, h⟩ := h
  replace h := onil_some h
  obtain ⟨rfl, h⟩ := h
  obtain ⟨s0, qh0, h⟩ := obind_some h
  obtain ⟨v1, qh1, h⟩ := obind_some h
  rw [argV_eq ok qh0, argV_eq ok qh1]
  exact call_of (phiE_nat _ _) hs ok mixed Tryz.func54 (c := slices_Contains_string_string_code) (by kernel_rfl) (slices_Contains_string_string_lo n) (by kernel_rfl) (by kernel_rfl) (by kernel_rfl) slices_Contains_string_string_de ((slices_Contains_string_string_tie n s0 v1).trans h)
theorem slices_Sort_int_int_ok (n : Nat) : EntOk Tryz.prog (ents n) (slices_Sort_int_int_ent n) := by
  intro hs ar y hg h
  replace h : slices_Sort_int_int_D n ar = some y := h
  unfold slices_Sort_int_int_D at h
  replace h := ocons_some h
  obtain ⟨a0, r1, rfl, h⟩ := h
  replace h := onil_some h
  obtain ⟨rfl, h⟩ := h
  replace h := obind_some h
  obtain ⟨l0, qh0, h⟩ := h
  replace h : sortIO l0 = some y := h
  rw [argV_eq ok qh0]
  exact sortIO_call ok ilay57 (e := 3) (fun x => x) (fun x => x) (fun _ => rfl) (fun _ => rfl) (by kernel_rfl) (List.map_id' _) (List.map_id' _) h
noncomputable def impl_DoBill_2_code : Code := match Tryz.f56.body with | some c => c | none => .skip
def impl_DoBill_2_ann : Ann := fun id => none
def impl_DoBill_2_Ls (n : Nat) : Nat → Option (LSpec T) := fun id => none
theorem impl_DoBill_2_tie (n : Nat) (s0 : ByteArray) (a1 : SBillOp) : evF (T := T) (Phi n 49) (impl_DoBill_2_Ls n) impl_DoBill_2_ann n Tryz.f56 (sg 56) [vA T 9 s0, .ptr 51 a1] impl_DoBill_2_dec = impl_DoBill_2 n s0 a1 := by kernel_rfl
theorem impl_DoBill_2_lo (n : Nat) : LoopsOk (T := T) (Phi n 49) (impl_DoBill_2_Ls n) impl_DoBill_2_ann n impl_DoBill_2_code := loopsOk_all (cs := []) (by kernel_rfl) trivial
theorem impl_DoBill_2_ok (n : Nat) : EntOk Tryz.prog (ents n) (impl_DoBill_2_ent n) := by
  intro hs ar y hg h
  replace h : impl_DoBill_2_D n ar = some y := h
  unfold impl_DoBill_2_D at h
  replace h := ocons_some h
  obtain ⟨a0, r0, rfl, h⟩ := h
  replace h := ocons_some h
  obtain ⟨a1, r1, rfl, h⟩ := h
  replace h := onil_some h
  obtain ⟨rfl, h⟩ := h
  obtain ⟨s0, qh0, h⟩ := obind_some h
  obtain ⟨a1, qh1, h⟩ := obind_some h
  rw [argV_eq ok qh0, argP_eq qh1]
  exact call_of (phiE_nat _ _) hs ok mixed Tryz.func56 (c := impl_DoBill_2_code) (by kernel_rfl) (impl_DoBill_2_lo n) (by kernel_rfl) (by kernel_rfl) (by kernel_rfl) impl_DoBill_2_de ((impl_DoBill_2_tie n s0 a1).trans h)
noncomputable def slices_IndexFunc_string_string__impl_DoBill_2_code : Code := match Tryz.f73.body with | some c => c | none => .skip
def slices_IndexFunc_string_string__impl_DoBill_2_2_sv : List Sv := [.one (.arr 9), .one (.fnr 56 [51]), .one (.int .i64), .one (.int .i64)]
def slices_IndexFunc_string_string__impl_DoBill_2_2_so : List So := []
def slices_IndexFunc_string_string__impl_DoBill_2_2_emb (c : List ByteArray × SBillOp × Int) (x : Int) : EVs T slices_IndexFunc_string_string__impl_DoBill_2_2_sv × EOs T slices_IndexFunc_string_string__impl_DoBill_2_2_so := ((c.1, (c.2.1, ()), c.2.2, x, ()), ())
def slices_IndexFunc_string_string__impl_DoBill_2_2_prj (y : EVs T slices_IndexFunc_string_string__impl_DoBill_2_2_sv × EOs T slices_IndexFunc_string_string__impl_DoBill_2_2_so) : (List ByteArray × SBillOp × Int) × Int := ((y.1.1, y.1.2.1.1, y.1.2.2.1), (y.1.2.2.2.1))
def slices_IndexFunc_string_string__impl_DoBill_2_2_b (n : Nat) {R : Type} (K : Ex → Sm.St T → Option R) (c : List ByteArray × SBillOp × Int) (x : Int) (J : Int → Option R) : Option R :=
  slices_IndexFunc_string_string__impl_DoBill_2_L2 n (K (.exit 0) (stOf (T := T) [] [] [] [] () ())) (fun (y0 : Int) => K .ret (stOf (T := T) [4] [] [.one (.int .i64)] [] (y0, ()) ())) J c.1 c.2.1 c.2.2 x
def slices_IndexFunc_string_string__impl_DoBill_2_2_sp (n : Nat) : LSpec T := mkSpec T ⟨[], [0, 1, 7, 8], []⟩ slices_IndexFunc_string_string__impl_DoBill_2_2_sv slices_IndexFunc_string_string__impl_DoBill_2_2_so (List ByteArray × SBillOp × Int) (Int) slices_IndexFunc_string_string__impl_DoBill_2_2_emb slices_IndexFunc_string_string__impl_DoBill_2_2_prj (slices_IndexFunc_string_string__impl_DoBill_2_2_b n)
noncomputable def slices_IndexFunc_string_string__impl_DoBill_2_2_c : Code := ((loopCodes slices_IndexFunc_string_string__impl_DoBill_2_code)[0]?).getD .skip
def slices_IndexFunc_string_string__impl_DoBill_2_ann : Ann := fun id => bif Nat.beq id 3000002 then some ⟨[], [], []⟩ else bif Nat.beq id 2000002 then some ⟨[], [4], []⟩ else none
def slices_IndexFunc_string_string__impl_DoBill_2_Ls (n : Nat) : Nat → Option (LSpec T) := fun id => bif Nat.beq id 2 then some (slices_IndexFunc_string_string__impl_DoBill_2_2_sp n) else none
theorem slices_IndexFunc_string_string__impl_DoBill_2_2_le (n : Nat) : LoopEq (T := T) (Phi n 50) (slices_IndexFunc_string_string__impl_DoBill_2_Ls n) slices_IndexFunc_string_string__impl_DoBill_2_ann n slices_IndexFunc_string_string__impl_DoBill_2_2_c (slices_IndexFunc_string_string__impl_DoBill_2_2_sp n) := ⟨mkSpec_dec (fun y => rfl), fun c x => by kernel_rfl, fun K J c x => by kernel_rfl⟩
theorem slices_IndexFunc_string_string__impl_DoBill_2_tie (n : Nat) (s0 : List ByteArray) (f1c0 : SBillOp) : evF (T := T) (Phi n 50) (slices_IndexFunc_string_string__impl_DoBill_2_Ls n) slices_IndexFunc_string_string__impl_DoBill_2_ann n Tryz.f73 (sg 73) [vA T 61 s0, .fn 56 [.ptr 51 f1c0]] slices_IndexFunc_string_string__impl_DoBill_2_dec = slices_IndexFunc_string_string__impl_DoBill_2 n s0 f1c0 := by kernel_rfl
theorem slices_IndexFunc_string_string__impl_DoBill_2_lo (n : Nat) : LoopsOk (T := T) (Phi n 50) (slices_IndexFunc_string_string__impl_DoBill_2_Ls n) slices_IndexFunc_string_string__impl_DoBill_2_ann n slices_IndexFunc_string_string__impl_DoBill_2_code := loopsOk_all (cs := [slices_IndexFunc_string_string__impl_DoBill_2_2_c]) (by kernel_rfl) ⟨⟨_, by kernel_rfl, slices_IndexFunc_string_string__impl_DoBill_2_2_le n⟩, trivial⟩
theorem slices_IndexFunc_string_string__impl_DoBill_2_ok (n : Nat) : EntOk Tryz.prog (ents n) (slices_IndexFunc_string_string__impl_DoBill_2_ent n) := by
  intro hs ar y hg h
  replace h : slices_IndexFunc_string_string__impl_DoBill_2_D n ar = some y := h
  unfold slices_IndexFunc_string_string__impl_DoBill_2_D at h
  split at h
  · obtain ⟨s0, qh0, h⟩ := obind_some h
    obtain ⟨f1c0, qh1, h⟩ := obind_some h
    rw [argV_eq ok qh0, argP_eq qh1] at hg ⊢
    cases (show [_] = [56] from natsEq_eq hg)
    exact call_of (phiE_nat _ _) hs ok mixed Tryz.func73 (c := slices_IndexFunc_string_string__impl_DoBill_2_code) (by kernel_rfl) (slices_IndexFunc_string_string__impl_DoBill_2_lo n) (by kernel_rfl) (by kernel_rfl) (by kernel_rfl) slices_IndexFunc_string_string__impl_DoBill_2_de ((slices_IndexFunc_string_string__impl_DoBill_2_tie n s0 f1c0).trans h)
  · cases h
noncomputable def slices_ContainsFunc_string_string__impl_DoBill_2_code : Code := match Tryz.f55.body with | some c => c | none => .skip
def slices_ContainsFunc_string_string__impl_DoBill_2_ann : Ann := fun id => none
def slices_ContainsFunc_string_string__impl_DoBill_2_Ls (n : Nat) : Nat → Option (LSpec T) := fun id => none
theorem slices_ContainsFunc_string_string__impl_DoBill_2_tie (n : Nat) (s0 : List ByteArray) (f1c0 : SBillOp) : evF (T := T) (Phi n 51) (slices_ContainsFunc_string_string__impl_DoBill_2_Ls n) slices_ContainsFunc_string_string__impl_DoBill_2_ann n Tryz.f55 (sg 55) [vA T 61 s0, .fn 56 [.ptr 51 f1c0]] slices_ContainsFunc_string_string__impl_DoBill_2_dec = slices_ContainsFunc_string_string__impl_DoBill_2 n s0 f1c0 := by kernel_rfl
theorem slices_ContainsFunc_string_string__impl_DoBill_2_lo (n : Nat) : LoopsOk (T := T) (Phi n 51) (slices_ContainsFunc_string_string__impl_DoBill_2_Ls n) slices_ContainsFunc_string_string__impl_DoBill_2_ann n slices_ContainsFunc_string_string__impl_DoBill_2_code := loopsOk_all (cs := []) (by kernel_rfl) trivial
theorem slices_ContainsFunc_string_string__impl_DoBill_2_ok (n : Nat) : EntOk Tryz.prog (ents n) (slices_ContainsFunc_string_string__impl_DoBill_2_ent n) := by
  intro hs ar y hg h
  replace h : slices_ContainsFunc_string_string__impl_DoBill_2_D n ar = some y := h
  unfold slices_ContainsFunc_string_string__impl_DoBill_2_D at h
  split at h
  · obtain ⟨s0, qh0, h⟩ := obind_some h
    obtain ⟨f1c0, qh1, h⟩ := obind_some h
    rw [argV_eq ok qh0, argP_eq qh1] at hg ⊢
    cases (show [_] = [56] from natsEq_eq hg)
    exact call_of (phiE_nat _ _) hs ok mixed Tryz.func55 (c := slices_ContainsFunc_string_string__impl_DoBill_2_code) (by kernel_rfl) (slices_ContainsFunc_string_string__impl_DoBill_2_lo n) (by kernel_rfl) (by kernel_rfl) (by kernel_rfl) slices_ContainsFunc_string_string__impl_DoBill_2_de ((slices_ContainsFunc_string_string__impl_DoBill_2_tie n s0 f1c0).trans h)
  · cases h
noncomputable def impl_DoBill_code : Code := match Tryz.f27.body with | some c => c | none => .skip
def impl_DoBill_ann : Ann := fun id => none
def impl_DoBill_Ls (n : Nat) : Nat → Option (LSpec T) := fun id => none
theorem impl_DoBill_tie (n : Nat) (b0 : SBook) (op1 : SBillOp) : evF (T := T) (Phi n 52) (impl_DoBill_Ls n) impl_DoBill_ann n Tryz.f27 (sg 27) [vA T 31 b0, vA T 51 op1] impl_DoBill_dec = impl_DoBill n b0 op1 := by kernel_rfl
theorem impl_DoBill_lo (n : Nat) : LoopsOk (T := T) (Phi n 52) (impl_DoBill_Ls n) impl_DoBill_ann n impl_DoBill_code := loopsOk_all (cs := []) (by kernel_rfl) trivial
theorem impl_DoBill_ok (n : Nat) : EntOk Tryz.prog (ents n) (impl_DoBill_ent n) := by
  intro hs ar y hg h
  replace h : impl_DoBill_D n ar = some y := h
  unfold impl_DoBill_D at h
  replace h := ocons_some h
  obtain ⟨a0, r0, rfl, h⟩ := h
  replace h := ocons_some h
  obtain ⟨a1, r1, rfl, h⟩ := h
  replace h := onil_some h
  obtain ⟨rfl, h⟩ := h
  obtain ⟨b0, qh0, h⟩ := obind_some h
  obtain ⟨op1, qh1, h⟩ := obind_some h
  rw [argV_eq ok qh0, argV_eq ok qh1]
  exact call_of (phiE_nat _ _) hs ok mixed Tryz.func27 (c := impl_DoBill_code) (by kernel_rfl) (impl_DoBill_lo n) (by kernel_rfl) (by kernel_rfl) (by kernel_rfl) impl_DoBill_de ((impl_DoBill_tie n b0 op1).trans h)
noncomputable def impl_RunBills_code : Code := match Tryz.f9.body with | some c => c | none => .skip
def impl_RunBills_6_sv : List Sv := [.one (.ptr 16 0 0), .one (.ptr 32 0 0), .one (.own 3000000 3 false), .one (.arr 51), .one (.int .i64), .one (.int .i64)]
def impl_RunBills_6_so : List So := [.var [.own 3000001 64 false, .own 3000002 3 false], .arr 64 false, .arr 3 false, .var [.own 3000003 64 false, .own 3000004 3 false], .arr 64 false, .arr 3 false, .arr 3 false]
def impl_RunBills_6_emb (c : List SBillOp × Int × List SBill × List Int) (x : Int × List SBill × List Int × List Int) : EVs T impl_RunBills_6_sv × EOs T impl_RunBills_6_so := (((), (), (), c.1, c.2.1, x.1, ()), (((), (), ()), x.2.1, x.2.2.1, ((), (), ()), c.2.2.1, c.2.2.2, x.2.2.2, ()))
def impl_RunBills_6_prj (y : EVs T impl_RunBills_6_sv × EOs T impl_RunBills_6_so) : (List SBillOp × Int × List SBill × List Int) × (Int × List SBill × List Int × List Int) := ((y.1.2.2.2.1, y.1.2.2.2.2.1, y.2.2.2.2.2.1, y.2.2.2.2.2.2.1), (y.1.2.2.2.2.2.1, y.2.2.1, y.2.2.2.1, y.2.2.2.2.2.2.2.1))
def impl_RunBills_6_b (n : Nat) {R : Type} (K : Ex → Sm.St T → Option R) (c : List SBillOp × Int × List SBill × List Int) (x : Int × List SBill × List Int × List Int) (J : (Int × List SBill × List Int × List Int) → Option R) : Option R :=
  impl_RunBills_L6 n (fun (y0 : List SBill) (y1 : List Int) (y4 : List Int) => K (.exit 0) (stOf (T := T) [2, 4, 6] [16, 3000001, 3000002, 32, 3000003, 3000004, 3000000] [.one (.ptr 16 0 0), .one (.ptr 32 0 0), .one (.own 3000000 3 false)] [.var [.own 3000001 64 false, .own 3000002 3 false], .arr 64 false, .arr 3 false, .var [.own 3000003 64 false, .own 3000004 3 false], .arr 64 false, .arr 3 false, .arr 3 false] ((), (), (), ()) (((), (), ()), y0, y1, ((), (), ()), c.2.2.1, c.2.2.2, y4, ()))) (fun z0 z1 z2 z3 => J (z0, z1, z2, z3)) c.1 c.2.1 x.1 x.2.1 x.2.2.1 c.2.2.1 c.2.2.2 x.2.2.2
def impl_RunBills_6_sp (n : Nat) : LSpec T := mkSpec T ⟨[((.reg 6), 3000000, 3), ((.cell 16 0), 3000001, 64), ((.cell 16 1), 3000002, 3), ((.cell 32 0), 3000003, 64), ((.cell 32 1), 3000004, 3)], [2, 4, 6, 16, 17, 18], [16, 3000001, 3000002, 32, 3000003, 3000004, 3000000]⟩ impl_RunBills_6_sv impl_RunBills_6_so (List SBillOp × Int × List SBill × List Int) (Int × List SBill × List Int × List Int) impl_RunBills_6_emb impl_RunBills_6_prj (impl_RunBills_6_b n)
noncomputable def impl_RunBills_6_c : Code := ((loopCodes impl_RunBills_code)[0]?).getD .skip
def impl_RunBills_ann : Ann := fun id => bif Nat.beq id 3000006 then some ⟨[((.reg 6), 3000000, 3), ((.cell 16 0), 3000001, 64), ((.cell 16 1), 3000002, 3), ((.cell 32 0), 3000003, 64), ((.cell 32 1), 3000004, 3)], [2, 4, 6], [16, 3000001, 3000002, 32, 3000003, 3000004, 3000000]⟩ else none
def impl_RunBills_Ls (n : Nat) : Nat → Option (LSpec T) := fun id => bif Nat.beq id 6 then some (impl_RunBills_6_sp n) else none
theorem impl_RunBills_6_le (n : Nat) : LoopEq (T := T) (Phi n 53) (impl_RunBills_Ls n) impl_RunBills_ann n impl_RunBills_6_c (impl_RunBills_6_sp n) := ⟨mkSpec_dec (fun y => rfl), fun c x => by kernel_rfl, fun K J c x => by kernel_rfl⟩
theorem impl_RunBills_tie (n : Nat) (b0 : SBook) (ops1 : List SBillOp) : evF (T := T) (Phi n 53) (impl_RunBills_Ls n) impl_RunBills_ann n Tryz.f9 (sg 9) [vA T 31 b0, vA T 35 ops1] impl_RunBills_dec = impl_RunBills n b0 ops1 := by kernel_rfl
theorem impl_RunBills_lo (n : Nat) : LoopsOk (T := T) (Phi n 53) (impl_RunBills_Ls n) impl_RunBills_ann n impl_RunBills_code := loopsOk_all (cs := [impl_RunBills_6_c]) (by kernel_rfl) ⟨⟨_, by kernel_rfl, impl_RunBills_6_le n⟩, trivial⟩
theorem impl_RunBills_ok (n : Nat) : EntOk Tryz.prog (ents n) (impl_RunBills_ent n) := by
  intro hs ar y hg h
  replace h : impl_RunBills_D n ar = some y := h
  unfold impl_RunBills_D at h
  replace h := ocons_some h
  obtain ⟨a0, r0, rfl, h⟩ := h
  replace h := ocons_some h
  obtain ⟨a1, r1, rfl, h⟩ := h
  replace h := onil_some h
  obtain ⟨rfl, h⟩ := h
  obtain ⟨b0, qh0, h⟩ := obind_some h
  obtain ⟨ops1, qh1, h⟩ := obind_some h
  rw [argV_eq ok qh0, argV_eq ok qh1]
  exact call_of (phiE_nat _ _) hs ok mixed Tryz.func9 (c := impl_RunBills_code) (by kernel_rfl) (impl_RunBills_lo n) (by kernel_rfl) (by kernel_rfl) (by kernel_rfl) impl_RunBills_de ((impl_RunBills_tie n b0 ops1).trans h)
noncomputable def laws_eqStringS_code : Code := match Tryz.f75.body with | some c => c | none => .skip
def laws_eqStringS_4_sv : List Sv := [.one (.arr 9), .one (.arr 9), .one (.int .i64)]
def laws_eqStringS_4_so : List So := []
def laws_eqStringS_4_emb (c : List ByteArray × List ByteArray) (x : Int) : EVs T laws_eqStringS_4_sv × EOs T laws_eqStringS_4_so := ((c.1, c.2, x, ()), ())
def laws_eqStringS_4_prj (y : EVs T laws_eqStringS_4_sv × EOs T laws_eqStringS_4_so) : (List ByteArray × List ByteArray) × Int := ((y.1.1, y.1.2.1), (y.1.2.2.1))
def laws_eqStringS_4_b (n : Nat) {R : Type} (K : Ex → Sm.St T → Option R) (c : List ByteArray × List ByteArray) (x : Int) (J : Int → Option R) : Option R :=
  laws_eqStringS_L4 n (K (.exit 0) (stOf (T := T) [] [] [] [] () ())) (fun (y0 : Bool) => K .ret (stOf (T := T) [4] [] [.one (.bool)] [] (y0, ()) ())) J c.1 c.2 x
def laws_eqStringS_4_sp (n : Nat) : LSpec T := mkSpec T ⟨[], [0, 1, 5], []⟩ laws_eqStringS_4_sv laws_eqStringS_4_so (List ByteArray × List ByteArray) (Int) laws_eqStringS_4_emb laws_eqStringS_4_prj (laws_eqStringS_4_b n)
noncomputable def laws_eqStringS_4_c : Code := ((loopCodes laws_eqStringS_code)[0]?).getD .skip
def laws_eqStringS_ann : Ann := fun id => bif Nat.beq id 3000004 then some ⟨[], [], []⟩ else bif Nat.beq id 2000004 then some ⟨[], [4], []⟩ else none
def laws_eqStringS_Ls (n : Nat) : Nat → Option (LSpec T) := fun id => bif Nat.beq id 4 then some (laws_eqStringS_4_sp n) else none
theorem laws_eqStringS_4_le (n : Nat) : LoopEq (T := T) (Phi n 54) (laws_eqStringS_Ls n) laws_eqStringS_ann n laws_eqStringS_4_c (laws_eqStringS_4_sp n) := ⟨mkSpec_dec (fun y => rfl), fun c x => by kernel_rfl, fun K J c x => by kernel_rfl⟩
theorem laws_eqStringS_tie (n : Nat) (a0 : List ByteArray) (b1 : List ByteArray) : evF (T := T) (Phi n 54) (laws_eqStringS_Ls n) laws_eqStringS_ann n Tryz.f75 (sg 75) [vA T 61 a0, vA T 61 b1] laws_eqStringS_dec = laws_eqStringS n a0 b1 := by kernel_rfl
theorem laws_eqStringS_lo (n : Nat) : LoopsOk (T := T) (Phi n 54) (laws_eqStringS_Ls n) laws_eqStringS_ann n laws_eqStringS_code := loopsOk_all (cs := [laws_eqStringS_4_c]) (by kernel_rfl) ⟨⟨_, by kernel_rfl, laws_eqStringS_4_le n⟩, trivial⟩
theorem laws_eqStringS_ok (n : Nat) : EntOk Tryz.prog (ents n) (laws_eqStringS_ent n) := by
  intro hs ar y hg h
  replace h : laws_eqStringS_D n ar = some y := h
  unfold laws_eqStringS_D at h
  replace h := ocons_some h
  obtain ⟨a0, r0, rfl, h⟩ := h
  replace h := ocons_some h
  obtain ⟨a1, r1, rfl, h⟩ := h
  replace h := onil_some h
  obtain ⟨rfl, h⟩ := h
  obtain ⟨a0, qh0, h⟩ := obind_some h
  obtain ⟨b1, qh1, h⟩ := obind_some h
  rw [argV_eq ok qh0, argV_eq ok qh1]
  exact call_of (phiE_nat _ _) hs ok mixed Tryz.func75 (c := laws_eqStringS_code) (by kernel_rfl) (laws_eqStringS_lo n) (by kernel_rfl) (by kernel_rfl) (by kernel_rfl) laws_eqStringS_de ((laws_eqStringS_tie n a0 b1).trans h)
noncomputable def laws_eqBill_code : Code := match Tryz.f58.body with | some c => c | none => .skip
def laws_eqBill_ann : Ann := fun id => none
def laws_eqBill_Ls (n : Nat) : Nat → Option (LSpec T) := fun id => none
theorem laws_eqBill_tie (n : Nat) (a0 : SBill) (b1 : SBill) : evF (T := T) (Phi n 55) (laws_eqBill_Ls n) laws_eqBill_ann n Tryz.f58 (sg 58) [vA T 64 a0, vA T 64 b1] laws_eqBill_dec = laws_eqBill n a0 b1 := by kernel_rfl
theorem laws_eqBill_lo (n : Nat) : LoopsOk (T := T) (Phi n 55) (laws_eqBill_Ls n) laws_eqBill_ann n laws_eqBill_code := loopsOk_all (cs := []) (by kernel_rfl) trivial
theorem laws_eqBill_ok (n : Nat) : EntOk Tryz.prog (ents n) (laws_eqBill_ent n) := by
  intro hs ar y hg h
  replace h : laws_eqBill_D n ar = some y := h
  unfold laws_eqBill_D at h
  replace h := ocons_some h
  obtain ⟨a0, r0, rfl, h⟩ := h
  replace h := ocons_some h
  obtain ⟨a1, r1, rfl, h⟩ := h
  replace h := onil_some h
  obtain ⟨rfl, h⟩ := h
  obtain ⟨a0, qh0, h⟩ := obind_some h
  obtain ⟨b1, qh1, h⟩ := obind_some h
  rw [argV_eq ok qh0, argV_eq ok qh1]
  exact call_of (phiE_nat _ _) hs ok mixed Tryz.func58 (c := laws_eqBill_code) (by kernel_rfl) (laws_eqBill_lo n) (by kernel_rfl) (by kernel_rfl) (by kernel_rfl) laws_eqBill_de ((laws_eqBill_tie n a0 b1).trans h)
noncomputable def laws_eqBillS_code : Code := match Tryz.f29.body with | some c => c | none => .skip
def laws_eqBillS_4_sv : List Sv := [.one (.arr 64), .one (.arr 64), .one (.int .i64)]
def laws_eqBillS_4_so : List So := []
def laws_eqBillS_4_emb (c : List SBill × List SBill) (x : Int) : EVs T laws_eqBillS_4_sv × EOs T laws_eqBillS_4_so := ((c.1, c.2, x, ()), ())
def laws_eqBillS_4_prj (y : EVs T laws_eqBillS_4_sv × EOs T laws_eqBillS_4_so) : (List SBill × List SBill) × Int := ((y.1.1, y.1.2.1), (y.1.2.2.1))
def laws_eqBillS_4_b (n : Nat) {R : Type} (K : Ex → Sm.St T → Option R) (c : List SBill × List SBill) (x : Int) (J : Int → Option R) : Option R :=
  laws_eqBillS_L4 n (K (.exit 0) (stOf (T := T) [] [] [] [] () ())) (fun (y0 : Bool) => K .ret (stOf (T := T) [4] [] [.one (.bool)] [] (y0, ()) ())) J c.1 c.2 x
def laws_eqBillS_4_sp (n : Nat) : LSpec T := mkSpec T ⟨[], [0, 1, 5], []⟩ laws_eqBillS_4_sv laws_eqBillS_4_so (List SBill × List SBill) (Int) laws_eqBillS_4_emb laws_eqBillS_4_prj (laws_eqBillS_4_b n)
noncomputable def laws_eqBillS_4_c : Code := ((loopCodes laws_eqBillS_code)[0]?).getD .skip
def laws_eqBillS_ann : Ann := fun id => bif Nat.beq id 3000004 then some ⟨[], [], []⟩ else bif Nat.beq id 2000004 then some ⟨[], [4], []⟩ else none
def laws_eqBillS_Ls (n : Nat) : Nat → Option (LSpec T) := fun id => bif Nat.beq id 4 then some (laws_eqBillS_4_sp n) else none
theorem laws_eqBillS_4_le (n : Nat) : LoopEq (T := T) (Phi n 56) (laws_eqBillS_Ls n) laws_eqBillS_ann n laws_eqBillS_4_c (laws_eqBillS_4_sp n) := ⟨mkSpec_dec (fun y => rfl), fun c x => by kernel_rfl, fun K J c x => by kernel_rfl⟩
theorem laws_eqBillS_tie (n : Nat) (a0 : List SBill) (b1 : List SBill) : evF (T := T) (Phi n 56) (laws_eqBillS_Ls n) laws_eqBillS_ann n Tryz.f29 (sg 29) [vA T 29 a0, vA T 29 b1] laws_eqBillS_dec = laws_eqBillS n a0 b1 := by kernel_rfl
theorem laws_eqBillS_lo (n : Nat) : LoopsOk (T := T) (Phi n 56) (laws_eqBillS_Ls n) laws_eqBillS_ann n laws_eqBillS_code := loopsOk_all (cs := [laws_eqBillS_4_c]) (by kernel_rfl) ⟨⟨_, by kernel_rfl, laws_eqBillS_4_le n⟩, trivial⟩
theorem laws_eqBillS_ok (n : Nat) : EntOk Tryz.prog (ents n) (laws_eqBillS_ent n) := by
  intro hs ar y hg h
  replace h : laws_eqBillS_D n ar = some y := h
  unfold laws_eqBillS_D at h
  replace h := ocons_some h
  obtain ⟨a0, r0, rfl, h⟩ := h
  replace h := ocons_some h
  obtain ⟨a1, r1, rfl, h⟩ := h
  replace h := onil_some h
  obtain ⟨rfl, h⟩ := h
  obtain ⟨a0, qh0, h⟩ := obind_some h
  obtain ⟨b1, qh1, h⟩ := obind_some h
  rw [argV_eq ok qh0, argV_eq ok qh1]
  exact call_of (phiE_nat _ _) hs ok mixed Tryz.func29 (c := laws_eqBillS_code) (by kernel_rfl) (laws_eqBillS_lo n) (by kernel_rfl) (by kernel_rfl) (by kernel_rfl) laws_eqBillS_de ((laws_eqBillS_tie n a0 b1).trans h)
noncomputable def laws_eqIntS_code : Code := match Tryz.f11.body with | some c => c | none => .skip
def laws_eqIntS_4_sv : List Sv := [.one (.arr 3), .one (.arr 3), .one (.int .i64)]
def laws_eqIntS_4_so : List So := []
def laws_eqIntS_4_emb (c : List Int × List Int) (x : Int) : EVs T laws_eqIntS_4_sv × EOs T laws_eqIntS_4_so := ((c.1, c.2, x, ()), ())
def laws_eqIntS_4_prj (y : EVs T laws_eqIntS_4_sv × EOs T laws_eqIntS_4_so) : (List Int × List Int) × Int := ((y.1.1, y.1.2.1), (y.1.2.2.1))
def laws_eqIntS_4_b (n : Nat) {R : Type} (K : Ex → Sm.St T → Option R) (c : List Int × List Int) (x : Int) (J : Int → Option R) : Option R :=
  laws_eqIntS_L4 n (K (.exit 0) (stOf (T := T) [] [] [] [] () ())) (fun (y0 : Bool) => K .ret (stOf (T := T) [4] [] [.one (.bool)] [] (y0, ()) ())) J c.1 c.2 x
def laws_eqIntS_4_sp (n : Nat) : LSpec T := mkSpec T ⟨[], [0, 1, 5], []⟩ laws_eqIntS_4_sv laws_eqIntS_4_so (List Int × List Int) (Int) laws_eqIntS_4_emb laws_eqIntS_4_prj (laws_eqIntS_4_b n)
noncomputable def laws_eqIntS_4_c : Code := ((loopCodes laws_eqIntS_code)[0]?).getD .skip
def laws_eqIntS_ann : Ann := fun id => bif Nat.beq id 3000004 then some ⟨[], [], []⟩ else bif Nat.beq id 2000004 then some ⟨[], [4], []⟩ else none
def laws_eqIntS_Ls (n : Nat) : Nat → Option (LSpec T) := fun id => bif Nat.beq id 4 then some (laws_eqIntS_4_sp n) else none
theorem laws_eqIntS_4_le (n : Nat) : LoopEq (T := T) (Phi n 57) (laws_eqIntS_Ls n) laws_eqIntS_ann n laws_eqIntS_4_c (laws_eqIntS_4_sp n) := ⟨mkSpec_dec (fun y => rfl), fun c x => by kernel_rfl, fun K J c x => by kernel_rfl⟩
theorem laws_eqIntS_tie (n : Nat) (a0 : List Int) (b1 : List Int) : evF (T := T) (Phi n 57) (laws_eqIntS_Ls n) laws_eqIntS_ann n Tryz.f11 (sg 11) [vA T 23 a0, vA T 23 b1] laws_eqIntS_dec = laws_eqIntS n a0 b1 := by kernel_rfl
theorem laws_eqIntS_lo (n : Nat) : LoopsOk (T := T) (Phi n 57) (laws_eqIntS_Ls n) laws_eqIntS_ann n laws_eqIntS_code := loopsOk_all (cs := [laws_eqIntS_4_c]) (by kernel_rfl) ⟨⟨_, by kernel_rfl, laws_eqIntS_4_le n⟩, trivial⟩
theorem laws_eqIntS_ok (n : Nat) : EntOk Tryz.prog (ents n) (laws_eqIntS_ent n) := by
  intro hs ar y hg h
  replace h : laws_eqIntS_D n ar = some y := h
  unfold laws_eqIntS_D at h
  replace h := ocons_some h
  obtain ⟨a0, r0, rfl, h⟩ := h
  replace h := ocons_some h
  obtain ⟨a1, r1, rfl, h⟩ := h
  replace h := onil_some h
  obtain ⟨rfl, h⟩ := h
  obtain ⟨a0, qh0, h⟩ := obind_some h
  obtain ⟨b1, qh1, h⟩ := obind_some h
  rw [argV_eq ok qh0, argV_eq ok qh1]
  exact call_of (phiE_nat _ _) hs ok mixed Tryz.func11 (c := laws_eqIntS_code) (by kernel_rfl) (laws_eqIntS_lo n) (by kernel_rfl) (by kernel_rfl) (by kernel_rfl) laws_eqIntS_de ((laws_eqIntS_tie n a0 b1).trans h)
noncomputable def laws_eqBook_code : Code := match Tryz.f10.body with | some c => c | none => .skip
def laws_eqBook_ann : Ann := fun id => none
def laws_eqBook_Ls (n : Nat) : Nat → Option (LSpec T) := fun id => none
theorem laws_eqBook_tie (n : Nat) (a0 : SBook) (b1 : SBook) : evF (T := T) (Phi n 58) (laws_eqBook_Ls n) laws_eqBook_ann n Tryz.f10 (sg 10) [vA T 31 a0, vA T 31 b1] laws_eqBook_dec = laws_eqBook n a0 b1 := by kernel_rfl
theorem laws_eqBook_lo (n : Nat) : LoopsOk (T := T) (Phi n 58) (laws_eqBook_Ls n) laws_eqBook_ann n laws_eqBook_code := loopsOk_all (cs := []) (by kernel_rfl) trivial
theorem laws_eqBook_ok (n : Nat) : EntOk Tryz.prog (ents n) (laws_eqBook_ent n) := by
  intro hs ar y hg h
  replace h : laws_eqBook_D n ar = some y := h
  unfold laws_eqBook_D at h
  replace h := ocons_some h
  obtain ⟨a0, r0, rfl, h⟩ := h
  replace h := ocons_some h
  obtain ⟨a1, r1, rfl, h⟩ := h
  replace h := onil_some h
  obtain ⟨rfl, h⟩ := h
  obtain ⟨a0, qh0, h⟩ := obind_some h
  obtain ⟨b1, qh1, h⟩ := obind_some h
  rw [argV_eq ok qh0, argV_eq ok qh1]
  exact call_of (phiE_nat _ _) hs ok mixed Tryz.func10 (c := laws_eqBook_code) (by kernel_rfl) (laws_eqBook_lo n) (by kernel_rfl) (by kernel_rfl) (by kernel_rfl) laws_eqBook_de ((laws_eqBook_tie n a0 b1).trans h)
noncomputable def laws_eqBillOp_code : Code := match Tryz.f30.body with | some c => c | none => .skip
def laws_eqBillOp_ann : Ann := fun id => none
def laws_eqBillOp_Ls (n : Nat) : Nat → Option (LSpec T) := fun id => none
theorem laws_eqBillOp_tie (n : Nat) (a0 : SBillOp) (b1 : SBillOp) : evF (T := T) (Phi n 59) (laws_eqBillOp_Ls n) laws_eqBillOp_ann n Tryz.f30 (sg 30) [vA T 51 a0, vA T 51 b1] laws_eqBillOp_dec = laws_eqBillOp n a0 b1 := by kernel_rfl
theorem laws_eqBillOp_lo (n : Nat) : LoopsOk (T := T) (Phi n 59) (laws_eqBillOp_Ls n) laws_eqBillOp_ann n laws_eqBillOp_code := loopsOk_all (cs := []) (by kernel_rfl) trivial
theorem laws_eqBillOp_ok (n : Nat) : EntOk Tryz.prog (ents n) (laws_eqBillOp_ent n) := by
  intro hs ar y hg h
  replace h : laws_eqBillOp_D n ar = some y := h
  unfold laws_eqBillOp_D at h
  replace h := ocons_some h
  obtain ⟨a0, r0, rfl, h⟩ := h
  replace h := ocons_some h
  obtain ⟨a1, r1, rfl, h⟩ := h
  replace h := onil_some h
  obtain ⟨rfl, h⟩ := h
  obtain ⟨a0, qh0, h⟩ := obind_some h
  obtain ⟨b1, qh1, h⟩ := obind_some h
  rw [argV_eq ok qh0, argV_eq ok qh1]
  exact call_of (phiE_nat _ _) hs ok mixed Tryz.func30 (c := laws_eqBillOp_code) (by kernel_rfl) (laws_eqBillOp_lo n) (by kernel_rfl) (by kernel_rfl) (by kernel_rfl) laws_eqBillOp_de ((laws_eqBillOp_tie n a0 b1).trans h)
noncomputable def laws_eqBillOpS_code : Code := match Tryz.f12.body with | some c => c | none => .skip
def laws_eqBillOpS_4_sv : List Sv := [.one (.arr 51), .one (.arr 51), .one (.int .i64)]
def laws_eqBillOpS_4_so : List So := []
def laws_eqBillOpS_4_emb (c : List SBillOp × List SBillOp) (x : Int) : EVs T laws_eqBillOpS_4_sv × EOs T laws_eqBillOpS_4_so := ((c.1, c.2, x, ()), ())
def laws_eqBillOpS_4_prj (y : EVs T laws_eqBillOpS_4_sv × EOs T laws_eqBillOpS_4_so) : (List SBillOp × List SBillOp) × Int := ((y.1.1, y.1.2.1), (y.1.2.2.1))
def laws_eqBillOpS_4_b (n : Nat) {R : Type} (K : Ex → Sm.St T → Option R) (c : List SBillOp × List SBillOp) (x : Int) (J : Int → Option R) : Option R :=
  laws_eqBillOpS_L4 n (K (.exit 0) (stOf (T := T) [] [] [] [] () ())) (fun (y0 : Bool) => K .ret (stOf (T := T) [4] [] [.one (.bool)] [] (y0, ()) ())) J c.1 c.2 x
def laws_eqBillOpS_4_sp (n : Nat) : LSpec T := mkSpec T ⟨[], [0, 1, 5], []⟩ laws_eqBillOpS_4_sv laws_eqBillOpS_4_so (List SBillOp × List SBillOp) (Int) laws_eqBillOpS_4_emb laws_eqBillOpS_4_prj (laws_eqBillOpS_4_b n)
noncomputable def laws_eqBillOpS_4_c : Code := ((loopCodes laws_eqBillOpS_code)[0]?).getD .skip
def laws_eqBillOpS_ann : Ann := fun id => bif Nat.beq id 3000004 then some ⟨[], [], []⟩ else bif Nat.beq id 2000004 then some ⟨[], [4], []⟩ else none
def laws_eqBillOpS_Ls (n : Nat) : Nat → Option (LSpec T) := fun id => bif Nat.beq id 4 then some (laws_eqBillOpS_4_sp n) else none
theorem laws_eqBillOpS_4_le (n : Nat) : LoopEq (T := T) (Phi n 60) (laws_eqBillOpS_Ls n) laws_eqBillOpS_ann n laws_eqBillOpS_4_c (laws_eqBillOpS_4_sp n) := ⟨mkSpec_dec (fun y => rfl), fun c x => by kernel_rfl, fun K J c x => by kernel_rfl⟩
theorem laws_eqBillOpS_tie (n : Nat) (a0 : List SBillOp) (b1 : List SBillOp) : evF (T := T) (Phi n 60) (laws_eqBillOpS_Ls n) laws_eqBillOpS_ann n Tryz.f12 (sg 12) [vA T 35 a0, vA T 35 b1] laws_eqBillOpS_dec = laws_eqBillOpS n a0 b1 := by kernel_rfl
theorem laws_eqBillOpS_lo (n : Nat) : LoopsOk (T := T) (Phi n 60) (laws_eqBillOpS_Ls n) laws_eqBillOpS_ann n laws_eqBillOpS_code := loopsOk_all (cs := [laws_eqBillOpS_4_c]) (by kernel_rfl) ⟨⟨_, by kernel_rfl, laws_eqBillOpS_4_le n⟩, trivial⟩
theorem laws_eqBillOpS_ok (n : Nat) : EntOk Tryz.prog (ents n) (laws_eqBillOpS_ent n) := by
  intro hs ar y hg h
  replace h : laws_eqBillOpS_D n ar = some y := h
  unfold laws_eqBillOpS_D at h
  replace h := ocons_some h
  obtain ⟨a0, r0, rfl, h⟩ := h
  replace h := ocons_some h
  obtain ⟨a1, r1, rfl, h⟩ := h
  replace h := onil_some h
  obtain ⟨rfl, h⟩ := h
  obtain ⟨a0, qh0, h⟩ := obind_some h
  obtain ⟨b1, qh1, h⟩ := obind_some h
  rw [argV_eq ok qh0, argV_eq ok qh1]
  exact call_of (phiE_nat _ _) hs ok mixed Tryz.func12 (c := laws_eqBillOpS_code) (by kernel_rfl) (laws_eqBillOpS_lo n) (by kernel_rfl) (by kernel_rfl) (by kernel_rfl) laws_eqBillOpS_de ((laws_eqBillOpS_tie n a0 b1).trans h)
noncomputable def laws_markText_code : Code := match Tryz.f32.body with | some c => c | none => .skip
def laws_markText_4_sv : List Sv := [.one (.int .i64), .one (.str)]
def laws_markText_4_so : List So := []
def laws_markText_4_emb (c : Unit) (x : Int × ByteArray) : EVs T laws_markText_4_sv × EOs T laws_markText_4_so := ((x.1, x.2, ()), ())
def laws_markText_4_prj (y : EVs T laws_markText_4_sv × EOs T laws_markText_4_so) : Unit × (Int × ByteArray) := ((), (y.1.1, y.1.2.1))
def laws_markText_4_b (n : Nat) {R : Type} (K : Ex → Sm.St T → Option R) (c : Unit) (x : Int × ByteArray) (J : (Int × ByteArray) → Option R) : Option R :=
  laws_markText_L4 n (fun (y0 : ByteArray) => K (.exit 0) (stOf (T := T) [3] [] [.one (.str)] [] (y0, ()) ())) (fun z0 z1 => J (z0, z1)) x.1 x.2
def laws_markText_4_sp (n : Nat) : LSpec T := mkSpec T ⟨[], [0, 3], []⟩ laws_markText_4_sv laws_markText_4_so (Unit) (Int × ByteArray) laws_markText_4_emb laws_markText_4_prj (laws_markText_4_b n)
noncomputable def laws_markText_4_c : Code := ((loopCodes laws_markText_code)[0]?).getD .skip
def laws_markText_ann : Ann := fun id => bif Nat.beq id 3000004 then some ⟨[], [3], []⟩ else none
def laws_markText_Ls (n : Nat) : Nat → Option (LSpec T) := fun id => bif Nat.beq id 4 then some (laws_markText_4_sp n) else none
theorem laws_markText_4_le (n : Nat) : LoopEq (T := T) (Phi n 61) (laws_markText_Ls n) laws_markText_ann n laws_markText_4_c (laws_markText_4_sp n) := ⟨mkSpec_dec (fun y => rfl), fun c x => by kernel_rfl, fun K J c x => by kernel_rfl⟩
theorem laws_markText_tie (n : Nat) (k0 : Int) : evF (T := T) (Phi n 61) (laws_markText_Ls n) laws_markText_ann n Tryz.f32 (sg 32) [vA T 3 k0] laws_markText_dec = laws_markText n k0 := by kernel_rfl
theorem laws_markText_lo (n : Nat) : LoopsOk (T := T) (Phi n 61) (laws_markText_Ls n) laws_markText_ann n laws_markText_code := loopsOk_all (cs := [laws_markText_4_c]) (by kernel_rfl) ⟨⟨_, by kernel_rfl, laws_markText_4_le n⟩, trivial⟩
theorem laws_markText_ok (n : Nat) : EntOk Tryz.prog (ents n) (laws_markText_ent n) := by
  intro hs ar y hg h
  replace h : laws_markText_D n ar = some y := h
  unfold laws_markText_D at h
  replace h := ocons_some h
  obtain ⟨a0, r0, rfl, h⟩ := h
  replace h := onil_some h
  obtain ⟨rfl, h⟩ := h
  obtain ⟨k0, qh0, h⟩ := obind_some h
  rw [argV_eq ok qh0]
  exact call_of (phiE_nat _ _) hs ok mixed Tryz.func32 (c := laws_markText_code) (by kernel_rfl) (laws_markText_lo n) (by kernel_rfl) (by kernel_rfl) (by kernel_rfl) laws_markText_de ((laws_markText_tie n k0).trans h)
noncomputable def laws_markStringS_code : Code := match Tryz.f59.body with | some c => c | none => .skip
def laws_markStringS_2_sv : List Sv := [.one (.own 4503599627370496 9 false), .one (.int .i64), .one (.int .i64)]
def laws_markStringS_2_so : List So := [.arr 9 true]
def laws_markStringS_2_emb (c : Unit) (x : Int × Int × List ByteArray) : EVs T laws_markStringS_2_sv × EOs T laws_markStringS_2_so := (((), x.1, x.2.1, ()), (x.2.2, ()))
def laws_markStringS_2_prj (y : EVs T laws_markStringS_2_sv × EOs T laws_markStringS_2_so) : Unit × (Int × Int × List ByteArray) := ((), (y.1.2.1, y.1.2.2.1, y.2.1))
def laws_markStringS_2_b (n : Nat) {R : Type} (K : Ex → Sm.St T → Option R) (c : Unit) (x : Int × Int × List ByteArray) (J : (Int × Int × List ByteArray) → Option R) : Option R :=
  laws_markStringS_L2 n (fun (y0 : Int) (y1 : List ByteArray) => K (.exit 0) (stOf (T := T) [1] [4503599627370496] [.one (.int .i64)] [.arr 9 true] (y0, ()) (y1, ()))) (fun z0 z1 z2 => J (z0, z1, z2)) x.1 x.2.1 x.2.2
def laws_markStringS_2_sp (n : Nat) : LSpec T := mkSpec T ⟨[], [0, 1, 5], [4503599627370496]⟩ laws_markStringS_2_sv laws_markStringS_2_so (Unit) (Int × Int × List ByteArray) laws_markStringS_2_emb laws_markStringS_2_prj (laws_markStringS_2_b n)
noncomputable def laws_markStringS_2_c : Code := ((loopCodes laws_markStringS_code)[0]?).getD .skip
def laws_markStringS_ann : Ann := fun id => bif Nat.beq id 3000002 then some ⟨[], [1], [4503599627370496]⟩ else none
def laws_markStringS_Ls (n : Nat) : Nat → Option (LSpec T) := fun id => bif Nat.beq id 2 then some (laws_markStringS_2_sp n) else none
theorem laws_markStringS_2_le (n : Nat) : LoopEq (T := T) (Phi n 62) (laws_markStringS_Ls n) laws_markStringS_ann n laws_markStringS_2_c (laws_markStringS_2_sp n) := ⟨mkSpec_dec (fun y => rfl), fun c x => by kernel_rfl, fun K J c x => by kernel_rfl⟩
theorem laws_markStringS_tie (n : Nat) (a0 : List ByteArray) (k1 : Int) : evF (T := T) (Phi n 62) (laws_markStringS_Ls n) laws_markStringS_ann n Tryz.f59 (sg 59) [vA T 61 a0, vA T 3 k1] laws_markStringS_dec = laws_markStringS n a0 k1 := by kernel_rfl
theorem laws_markStringS_lo (n : Nat) : LoopsOk (T := T) (Phi n 62) (laws_markStringS_Ls n) laws_markStringS_ann n laws_markStringS_code := loopsOk_all (cs := [laws_markStringS_2_c]) (by kernel_rfl) ⟨⟨_, by kernel_rfl, laws_markStringS_2_le n⟩, trivial⟩
theorem laws_markStringS_ok (n : Nat) : EntOk Tryz.prog (ents n) (laws_markStringS_ent n) := by
  intro hs ar y hg h
  replace h : laws_markStringS_D n ar = some y := h
  unfold laws_markStringS_D at h
  replace h := ocons_some h
  obtain ⟨a0, r0, rfl, h⟩ := h
  replace h := ocons_some h
  obtain ⟨a1, r1, rfl, h⟩ := h
  replace h := onil_some h
  obtain ⟨rfl, h⟩ := h
  obtain ⟨a0, qh0, h⟩ := obind_some h
  obtain ⟨k1, qh1, h⟩ := obind_some h
  rw [argV_eq ok qh0, argV_eq ok qh1]
  exact call_of (phiE_nat _ _) hs ok mixed Tryz.func59 (c := laws_markStringS_code) (by kernel_rfl) (laws_markStringS_lo n) (by kernel_rfl) (by kernel_rfl) (by kernel_rfl) laws_markStringS_de ((laws_markStringS_tie n a0 k1).trans h)
noncomputable def laws_markBillS_code : Code := match Tryz.f31.body with | some c => c | none => .skip
def laws_markBillS_2_sv : List Sv := [.one (.own 4503599627370496 64 false), .one (.int .i64), .one (.int .i64)]
def laws_markBillS_2_so : List So := [.arr 64 true]
def laws_markBillS_2_emb (c : Unit) (x : Int × Int × List SBill) : EVs T laws_markBillS_2_sv × EOs T laws_markBillS_2_so := (((), x.1, x.2.1, ()), (x.2.2, ()))
def laws_markBillS_2_prj (y : EVs T laws_markBillS_2_sv × EOs T laws_markBillS_2_so) : Unit × (Int × Int × List SBill) := ((), (y.1.2.1, y.1.2.2.1, y.2.1))
def laws_markBillS_2_b (n : Nat) {R : Type} (K : Ex → Sm.St T → Option R) (c : Unit) (x : Int × Int × List SBill) (J : (Int × Int × List SBill) → Option R) : Option R :=
  laws_markBillS_L2 n (fun (y0 : Int) (y1 : List SBill) => K (.exit 0) (stOf (T := T) [1] [4503599627370496] [.one (.int .i64)] [.arr 64 true] (y0, ()) (y1, ()))) (fun z0 z1 z2 => J (z0, z1, z2)) x.1 x.2.1 x.2.2
def laws_markBillS_2_sp (n : Nat) : LSpec T := mkSpec T ⟨[], [0, 1, 5], [4503599627370496]⟩ laws_markBillS_2_sv laws_markBillS_2_so (Unit) (Int × Int × List SBill) laws_markBillS_2_emb laws_markBillS_2_prj (laws_markBillS_2_b n)
noncomputable def laws_markBillS_2_c : Code := ((loopCodes laws_markBillS_code)[0]?).getD .skip
def laws_markBillS_ann : Ann := fun id => bif Nat.beq id 3000002 then some ⟨[], [1], [4503599627370496]⟩ else none
def laws_markBillS_Ls (n : Nat) : Nat → Option (LSpec T) := fun id => bif Nat.beq id 2 then some (laws_markBillS_2_sp n) else none
theorem laws_markBillS_2_le (n : Nat) : LoopEq (T := T) (Phi n 63) (laws_markBillS_Ls n) laws_markBillS_ann n laws_markBillS_2_c (laws_markBillS_2_sp n) := ⟨mkSpec_dec (fun y => rfl), fun c x => by kernel_rfl, fun K J c x => by kernel_rfl⟩
theorem laws_markBillS_tie (n : Nat) (a0 : List SBill) (k1 : Int) : evF (T := T) (Phi n 63) (laws_markBillS_Ls n) laws_markBillS_ann n Tryz.f31 (sg 31) [vA T 29 a0, vA T 3 k1] laws_markBillS_dec = laws_markBillS n a0 k1 := by kernel_rfl
theorem laws_markBillS_lo (n : Nat) : LoopsOk (T := T) (Phi n 63) (laws_markBillS_Ls n) laws_markBillS_ann n laws_markBillS_code := loopsOk_all (cs := [laws_markBillS_2_c]) (by kernel_rfl) ⟨⟨_, by kernel_rfl, laws_markBillS_2_le n⟩, trivial⟩
theorem laws_markBillS_ok (n : Nat) : EntOk Tryz.prog (ents n) (laws_markBillS_ent n) := by
  intro hs ar y hg h
  replace h : laws_markBillS_D n ar = some y := h
  unfold laws_markBillS_D at h
  replace h := ocons_some h
  obtain ⟨a0, r0, rfl, h⟩ := h
  replace h := ocons_some h
  obtain ⟨a1, r1, rfl, h⟩ := h
  replace h := onil_some h
  obtain ⟨rfl, h⟩ := h
  obtain ⟨a0, qh0, h⟩ := obind_some h
  obtain ⟨k1, qh1, h⟩ := obind_some h
  rw [argV_eq ok qh0, argV_eq ok qh1]
  exact call_of (phiE_nat _ _) hs ok mixed Tryz.func31 (c := laws_markBillS_code) (by kernel_rfl) (laws_markBillS_lo n) (by kernel_rfl) (by kernel_rfl) (by kernel_rfl) laws_markBillS_de ((laws_markBillS_tie n a0 k1).trans h)
noncomputable def laws_markIntS_code : Code := match Tryz.f15.body with | some c => c | none => .skip
def laws_markIntS_2_sv : List Sv := [.one (.own 4503599627370496 3 false), .one (.int .i64), .one (.int .i64)]
def laws_markIntS_2_so : List So := [.arr 3 true]
def laws_markIntS_2_emb (c : Unit) (x : Int × Int × List Int) : EVs T laws_markIntS_2_sv × EOs T laws_markIntS_2_so := (((), x.1, x.2.1, ()), (x.2.2, ()))
def laws_markIntS_2_prj (y : EVs T laws_markIntS_2_sv × EOs T laws_markIntS_2_so) : Unit × (Int × Int × List Int) := ((), (y.1.2.1, y.1.2.2.1, y.2.1))
def laws_markIntS_2_b (n : Nat) {R : Type} (K : Ex → Sm.St T → Option R) (c : Unit) (x : Int × Int × List Int) (J : (Int × Int × List Int) → Option R) : Option R :=
  laws_markIntS_L2 n (fun (y0 : Int) (y1 : List Int) => K (.exit 0) (stOf (T := T) [1] [4503599627370496] [.one (.int .i64)] [.arr 3 true] (y0, ()) (y1, ()))) (fun z0 z1 z2 => J (z0, z1, z2)) x.1 x.2.1 x.2.2
def laws_markIntS_2_sp (n : Nat) : LSpec T := mkSpec T ⟨[], [0, 1, 5], [4503599627370496]⟩ laws_markIntS_2_sv laws_markIntS_2_so (Unit) (Int × Int × List Int) laws_markIntS_2_emb laws_markIntS_2_prj (laws_markIntS_2_b n)
noncomputable def laws_markIntS_2_c : Code := ((loopCodes laws_markIntS_code)[0]?).getD .skip
def laws_markIntS_ann : Ann := fun id => bif Nat.beq id 3000002 then some ⟨[], [1], [4503599627370496]⟩ else none
def laws_markIntS_Ls (n : Nat) : Nat → Option (LSpec T) := fun id => bif Nat.beq id 2 then some (laws_markIntS_2_sp n) else none
theorem laws_markIntS_2_le (n : Nat) : LoopEq (T := T) (Phi n 64) (laws_markIntS_Ls n) laws_markIntS_ann n laws_markIntS_2_c (laws_markIntS_2_sp n) := ⟨mkSpec_dec (fun y => rfl), fun c x => by kernel_rfl, fun K J c x => by kernel_rfl⟩
theorem laws_markIntS_tie (n : Nat) (a0 : List Int) (k1 : Int) : evF (T := T) (Phi n 64) (laws_markIntS_Ls n) laws_markIntS_ann n Tryz.f15 (sg 15) [vA T 23 a0, vA T 3 k1] laws_markIntS_dec = laws_markIntS n a0 k1 := by kernel_rfl
theorem laws_markIntS_lo (n : Nat) : LoopsOk (T := T) (Phi n 64) (laws_markIntS_Ls n) laws_markIntS_ann n laws_markIntS_code := loopsOk_all (cs := [laws_markIntS_2_c]) (by kernel_rfl) ⟨⟨_, by kernel_rfl, laws_markIntS_2_le n⟩, trivial⟩
theorem laws_markIntS_ok (n : Nat) : EntOk Tryz.prog (ents n) (laws_markIntS_ent n) := by
  intro hs ar y hg h
  replace h : laws_markIntS_D n ar = some y := h
  unfold laws_markIntS_D at h
  replace h := ocons_some h
  obtain ⟨a0, r0, rfl, h⟩ := h
  replace h := ocons_some h
  obtain ⟨a1, r1, rfl, h⟩ := h
  replace h := onil_some h
  obtain ⟨rfl, h⟩ := h
  obtain ⟨a0, qh0, h⟩ := obind_some h
  obtain ⟨k1, qh1, h⟩ := obind_some h
  rw [argV_eq ok qh0, argV_eq ok qh1]
  exact call_of (phiE_nat _ _) hs ok mixed Tryz.func15 (c := laws_markIntS_code) (by kernel_rfl) (laws_markIntS_lo n) (by kernel_rfl) (by kernel_rfl) (by kernel_rfl) laws_markIntS_de ((laws_markIntS_tie n a0 k1).trans h)
noncomputable def laws_markBook_code : Code := match Tryz.f13.body with | some c => c | none => .skip
def laws_markBook_ann : Ann := fun id => none
def laws_markBook_Ls (n : Nat) : Nat → Option (LSpec T) := fun id => none
theorem laws_markBook_tie (n : Nat) (a0 : SBook) (k1 : Int) : evF (T := T) (Phi n 65) (laws_markBook_Ls n) laws_markBook_ann n Tryz.f13 (sg 13) [vA T 31 a0, vA T 3 k1] laws_markBook_dec = laws_markBook n a0 k1 := by kernel_rfl
theorem laws_markBook_lo (n : Nat) : LoopsOk (T := T) (Phi n 65) (laws_markBook_Ls n) laws_markBook_ann n laws_markBook_code := loopsOk_all (cs := []) (by kernel_rfl) trivial
theorem laws_markBook_ok (n : Nat) : EntOk Tryz.prog (ents n) (laws_markBook_ent n) := by
  intro hs ar y hg h
  replace h : laws_markBook_D n ar = some y := h
  unfold laws_markBook_D at h
  replace h := ocons_some h
  obtain ⟨a0, r0, rfl, h⟩ := h
  replace h := ocons_some h
  obtain ⟨a1, r1, rfl, h⟩ := h
  replace h := onil_some h
  obtain ⟨rfl, h⟩ := h
  obtain ⟨a0, qh0, h⟩ := obind_some h
  obtain ⟨k1, qh1, h⟩ := obind_some h
  rw [argV_eq ok qh0, argV_eq ok qh1]
  exact call_of (phiE_nat _ _) hs ok mixed Tryz.func13 (c := laws_markBook_code) (by kernel_rfl) (laws_markBook_lo n) (by kernel_rfl) (by kernel_rfl) (by kernel_rfl) laws_markBook_de ((laws_markBook_tie n a0 k1).trans h)
noncomputable def laws_markBillOpS_code : Code := match Tryz.f14.body with | some c => c | none => .skip
def laws_markBillOpS_2_sv : List Sv := [.one (.own 4503599627370496 51 false), .one (.int .i64), .one (.int .i64)]
def laws_markBillOpS_2_so : List So := [.arr 51 true]
def laws_markBillOpS_2_emb (c : Unit) (x : Int × Int × List SBillOp) : EVs T laws_markBillOpS_2_sv × EOs T laws_markBillOpS_2_so := (((), x.1, x.2.1, ()), (x.2.2, ()))
def laws_markBillOpS_2_prj (y : EVs T laws_markBillOpS_2_sv × EOs T laws_markBillOpS_2_so) : Unit × (Int × Int × List SBillOp) := ((), (y.1.2.1, y.1.2.2.1, y.2.1))
def laws_markBillOpS_2_b (n : Nat) {R : Type} (K : Ex → Sm.St T → Option R) (c : Unit) (x : Int × Int × List SBillOp) (J : (Int × Int × List SBillOp) → Option R) : Option R :=
  laws_markBillOpS_L2 n (fun (y0 : Int) (y1 : List SBillOp) => K (.exit 0) (stOf (T := T) [1] [4503599627370496] [.one (.int .i64)] [.arr 51 true] (y0, ()) (y1, ()))) (fun z0 z1 z2 => J (z0, z1, z2)) x.1 x.2.1 x.2.2
def laws_markBillOpS_2_sp (n : Nat) : LSpec T := mkSpec T ⟨[], [0, 1, 5], [4503599627370496]⟩ laws_markBillOpS_2_sv laws_markBillOpS_2_so (Unit) (Int × Int × List SBillOp) laws_markBillOpS_2_emb laws_markBillOpS_2_prj (laws_markBillOpS_2_b n)
noncomputable def laws_markBillOpS_2_c : Code := ((loopCodes laws_markBillOpS_code)[0]?).getD .skip
def laws_markBillOpS_ann : Ann := fun id => bif Nat.beq id 3000002 then some ⟨[], [1], [4503599627370496]⟩ else none
def laws_markBillOpS_Ls (n : Nat) : Nat → Option (LSpec T) := fun id => bif Nat.beq id 2 then some (laws_markBillOpS_2_sp n) else none
theorem laws_markBillOpS_2_le (n : Nat) : LoopEq (T := T) (Phi n 66) (laws_markBillOpS_Ls n) laws_markBillOpS_ann n laws_markBillOpS_2_c (laws_markBillOpS_2_sp n) := ⟨mkSpec_dec (fun y => rfl), fun c x => by kernel_rfl, fun K J c x => by kernel_rfl⟩
theorem laws_markBillOpS_tie (n : Nat) (a0 : List SBillOp) (k1 : Int) : evF (T := T) (Phi n 66) (laws_markBillOpS_Ls n) laws_markBillOpS_ann n Tryz.f14 (sg 14) [vA T 35 a0, vA T 3 k1] laws_markBillOpS_dec = laws_markBillOpS n a0 k1 := by kernel_rfl
theorem laws_markBillOpS_lo (n : Nat) : LoopsOk (T := T) (Phi n 66) (laws_markBillOpS_Ls n) laws_markBillOpS_ann n laws_markBillOpS_code := loopsOk_all (cs := [laws_markBillOpS_2_c]) (by kernel_rfl) ⟨⟨_, by kernel_rfl, laws_markBillOpS_2_le n⟩, trivial⟩
theorem laws_markBillOpS_ok (n : Nat) : EntOk Tryz.prog (ents n) (laws_markBillOpS_ent n) := by
  intro hs ar y hg h
  replace h : laws_markBillOpS_D n ar = some y := h
  unfold laws_markBillOpS_D at h
  replace h := ocons_some h
  obtain ⟨a0, r0, rfl, h⟩ := h
  replace h := ocons_some h
  obtain ⟨a1, r1, rfl, h⟩ := h
  replace h := onil_some h
  obtain ⟨rfl, h⟩ := h
  obtain ⟨a0, qh0, h⟩ := obind_some h
  obtain ⟨k1, qh1, h⟩ := obind_some h
  rw [argV_eq ok qh0, argV_eq ok qh1]
  exact call_of (phiE_nat _ _) hs ok mixed Tryz.func14 (c := laws_markBillOpS_code) (by kernel_rfl) (laws_markBillOpS_lo n) (by kernel_rfl) (by kernel_rfl) (by kernel_rfl) laws_markBillOpS_de ((laws_markBillOpS_tie n a0 k1).trans h)
noncomputable def laws_heldStringS_code : Code := match Tryz.f60.body with | some c => c | none => .skip
def laws_heldStringS_2_sv : List Sv := [.one (.arr 9), .one (.int .i64), .one (.int .i64)]
def laws_heldStringS_2_so : List So := []
def laws_heldStringS_2_emb (c : List ByteArray) (x : Int × Int) : EVs T laws_heldStringS_2_sv × EOs T laws_heldStringS_2_so := ((c, x.1, x.2, ()), ())
def laws_heldStringS_2_prj (y : EVs T laws_heldStringS_2_sv × EOs T laws_heldStringS_2_so) : List ByteArray × (Int × Int) := ((y.1.1), (y.1.2.1, y.1.2.2.1))
def laws_heldStringS_2_b (n : Nat) {R : Type} (K : Ex → Sm.St T → Option R) (c : List ByteArray) (x : Int × Int) (J : (Int × Int) → Option R) : Option R :=
  laws_heldStringS_L2 n (fun (y0 : Int) => K (.exit 0) (stOf (T := T) [1] [] [.one (.int .i64)] [] (y0, ()) ())) (fun (y0 : Int) => K .ret (stOf (T := T) [4] [] [.one (.int .i64)] [] (y0, ()) ())) (fun z0 z1 => J (z0, z1)) c x.1 x.2
def laws_heldStringS_2_sp (n : Nat) : LSpec T := mkSpec T ⟨[], [0, 1, 5], []⟩ laws_heldStringS_2_sv laws_heldStringS_2_so (List ByteArray) (Int × Int) laws_heldStringS_2_emb laws_heldStringS_2_prj (laws_heldStringS_2_b n)
noncomputable def laws_heldStringS_2_c : Code := ((loopCodes laws_heldStringS_code)[0]?).getD .skip
def laws_heldStringS_ann : Ann := fun id => bif Nat.beq id 3000002 then some ⟨[], [1], []⟩ else bif Nat.beq id 2000002 then some ⟨[], [4], []⟩ else none
def laws_heldStringS_Ls (n : Nat) : Nat → Option (LSpec T) := fun id => bif Nat.beq id 2 then some (laws_heldStringS_2_sp n) else none
theorem laws_heldStringS_2_le (n : Nat) : LoopEq (T := T) (Phi n 67) (laws_heldStringS_Ls n) laws_heldStringS_ann n laws_heldStringS_2_c (laws_heldStringS_2_sp n) := ⟨mkSpec_dec (fun y => rfl), fun c x => by kernel_rfl, fun K J c x => by kernel_rfl⟩
theorem laws_heldStringS_tie (n : Nat) (a0 : List ByteArray) (k1 : Int) : evF (T := T) (Phi n 67) (laws_heldStringS_Ls n) laws_heldStringS_ann n Tryz.f60 (sg 60) [vA T 61 a0, vA T 3 k1] laws_heldStringS_dec = laws_heldStringS n a0 k1 := by kernel_rfl
theorem laws_heldStringS_lo (n : Nat) : LoopsOk (T := T) (Phi n 67) (laws_heldStringS_Ls n) laws_heldStringS_ann n laws_heldStringS_code := loopsOk_all (cs := [laws_heldStringS_2_c]) (by kernel_rfl) ⟨⟨_, by kernel_rfl, laws_heldStringS_2_le n⟩, trivial⟩
theorem laws_heldStringS_ok (n : Nat) : EntOk Tryz.prog (ents n) (laws_heldStringS_ent n) := by
  intro hs ar y hg h
  replace h : laws_heldStringS_D n ar = some y := h
  unfold laws_heldStringS_D at h
  replace h := ocons_some h
  obtain ⟨a0, r0, rfl, h⟩ := h
  replace h := ocons_some h
  obtain ⟨a1, r1, rfl, h⟩ := h
  replace h := onil_some h
  obtain ⟨rfl, h⟩ := h
  obtain ⟨a0, qh0, h⟩ := obind_some h
  obtain ⟨k1, qh1, h⟩ := obind_some h
  rw [argV_eq ok qh0, argV_eq ok qh1]
  exact call_of (phiE_nat _ _) hs ok mixed Tryz.func60 (c := laws_heldStringS_code) (by kernel_rfl) (laws_heldStringS_lo n) (by kernel_rfl) (by kernel_rfl) (by kernel_rfl) laws_heldStringS_de ((laws_heldStringS_tie n a0 k1).trans h)
noncomputable def laws_heldBillS_code : Code := match Tryz.f33.body with | some c => c | none => .skip
def laws_heldBillS_2_sv : List Sv := [.one (.arr 64), .one (.int .i64), .one (.int .i64)]
def laws_heldBillS_2_so : List So := []
def laws_heldBillS_2_emb (c : List SBill) (x : Int × Int) : EVs T laws_heldBillS_2_sv × EOs T laws_heldBillS_2_so := ((c, x.1, x.2, ()), ())
def laws_heldBillS_2_prj (y : EVs T laws_heldBillS_2_sv × EOs T laws_heldBillS_2_so) : List SBill × (Int × Int) := ((y.1.1), (y.1.2.1, y.1.2.2.1))
def laws_heldBillS_2_b (n : Nat) {R : Type} (K : Ex → Sm.St T → Option R) (c : List SBill) (x : Int × Int) (J : (Int × Int) → Option R) : Option R :=
  laws_heldBillS_L2 n (fun (y0 : Int) => K (.exit 0) (stOf (T := T) [1] [] [.one (.int .i64)] [] (y0, ()) ())) (fun (y0 : Int) => K .ret (stOf (T := T) [4] [] [.one (.int .i64)] [] (y0, ()) ())) (fun z0 z1 => J (z0, z1)) c x.1 x.2
def laws_heldBillS_2_sp (n : Nat) : LSpec T := mkSpec T ⟨[], [0, 1, 5], []⟩ laws_heldBillS_2_sv laws_heldBillS_2_so (List SBill) (Int × Int) laws_heldBillS_2_emb laws_heldBillS_2_prj (laws_heldBillS_2_b n)
noncomputable def laws_heldBillS_2_c : Code := ((loopCodes laws_heldBillS_code)[0]?).getD .skip
def laws_heldBillS_ann : Ann := fun id => bif Nat.beq id 3000002 then some ⟨[], [1], []⟩ else bif Nat.beq id 2000002 then some ⟨[], [4], []⟩ else none
def laws_heldBillS_Ls (n : Nat) : Nat → Option (LSpec T) := fun id => bif Nat.beq id 2 then some (laws_heldBillS_2_sp n) else none
theorem laws_heldBillS_2_le (n : Nat) : LoopEq (T := T) (Phi n 68) (laws_heldBillS_Ls n) laws_heldBillS_ann n laws_heldBillS_2_c (laws_heldBillS_2_sp n) := ⟨mkSpec_dec (fun y => rfl), fun c x => by kernel_rfl, fun K J c x => by kernel_rfl⟩
theorem laws_heldBillS_tie (n : Nat) (a0 : List SBill) (k1 : Int) : evF (T := T) (Phi n 68) (laws_heldBillS_Ls n) laws_heldBillS_ann n Tryz.f33 (sg 33) [vA T 29 a0, vA T 3 k1] laws_heldBillS_dec = laws_heldBillS n a0 k1 := by kernel_rfl
theorem laws_heldBillS_lo (n : Nat) : LoopsOk (T := T) (Phi n 68) (laws_heldBillS_Ls n) laws_heldBillS_ann n laws_heldBillS_code := loopsOk_all (cs := [laws_heldBillS_2_c]) (by kernel_rfl) ⟨⟨_, by kernel_rfl, laws_heldBillS_2_le n⟩, trivial⟩
theorem laws_heldBillS_ok (n : Nat) : EntOk Tryz.prog (ents n) (laws_heldBillS_ent n) := by
  intro hs ar y hg h
  replace h : laws_heldBillS_D n ar = some y := h
  unfold laws_heldBillS_D at h
  replace h := ocons_some h
  obtain ⟨a0, r0, rfl, h⟩ := h
  replace h := ocons_some h
  obtain ⟨a1, r1, rfl, h⟩ := h
  replace h := onil_some h
  obtain ⟨rfl, h⟩ := h
  obtain ⟨a0, qh0, h⟩ := obind_some h
  obtain ⟨k1, qh1, h⟩ := obind_some h
  rw [argV_eq ok qh0, argV_eq ok qh1]
  exact call_of (phiE_nat _ _) hs ok mixed Tryz.func33 (c := laws_heldBillS_code) (by kernel_rfl) (laws_heldBillS_lo n) (by kernel_rfl) (by kernel_rfl) (by kernel_rfl) laws_heldBillS_de ((laws_heldBillS_tie n a0 k1).trans h)
noncomputable def laws_heldIntS_code : Code := match Tryz.f17.body with | some c => c | none => .skip
def laws_heldIntS_2_sv : List Sv := [.one (.arr 3), .one (.int .i64), .one (.int .i64)]
def laws_heldIntS_2_so : List So := []
def laws_heldIntS_2_emb (c : List Int) (x : Int × Int) : EVs T laws_heldIntS_2_sv × EOs T laws_heldIntS_2_so := ((c, x.1, x.2, ()), ())
def laws_heldIntS_2_prj (y : EVs T laws_heldIntS_2_sv × EOs T laws_heldIntS_2_so) : List Int × (Int × Int) := ((y.1.1), (y.1.2.1, y.1.2.2.1))
def laws_heldIntS_2_b (n : Nat) {R : Type} (K : Ex → Sm.St T → Option R) (c : List Int) (x : Int × Int) (J : (Int × Int) → Option R) : Option R :=
  laws_heldIntS_L2 n (fun (y0 : Int) => K (.exit 0) (stOf (T := T) [1] [] [.one (.int .i64)] [] (y0, ()) ())) (fun (y0 : Int) => K .ret (stOf (T := T) [4] [] [.one (.int .i64)] [] (y0, ()) ())) (fun z0 z1 => J (z0, z1)) c x.1 x.2
def laws_heldIntS_2_sp (n : Nat) : LSpec T := mkSpec T ⟨[], [0, 1, 5], []⟩ laws_heldIntS_2_sv laws_heldIntS_2_so (List Int) (Int × Int) laws_heldIntS_2_emb laws_heldIntS_2_prj (laws_heldIntS_2_b n)
noncomputable def laws_heldIntS_2_c : Code := ((loopCodes laws_heldIntS_code)[0]?).getD .skip
def laws_heldIntS_ann : Ann := fun id => bif Nat.beq id 3000002 then some ⟨[], [1], []⟩ else bif Nat.beq id 2000002 then some ⟨[], [4], []⟩ else none
def laws_heldIntS_Ls (n : Nat) : Nat → Option (LSpec T) := fun id => bif Nat.beq id 2 then some (laws_heldIntS_2_sp n) else none
theorem laws_heldIntS_2_le (n : Nat) : LoopEq (T := T) (Phi n 69) (laws_heldIntS_Ls n) laws_heldIntS_ann n laws_heldIntS_2_c (laws_heldIntS_2_sp n) := ⟨mkSpec_dec (fun y => rfl), fun c x => by kernel_rfl, fun K J c x => by kernel_rfl⟩
theorem laws_heldIntS_tie (n : Nat) (a0 : List Int) (k1 : Int) : evF (T := T) (Phi n 69) (laws_heldIntS_Ls n) laws_heldIntS_ann n Tryz.f17 (sg 17) [vA T 23 a0, vA T 3 k1] laws_heldIntS_dec = laws_heldIntS n a0 k1 := by kernel_rfl
theorem laws_heldIntS_lo (n : Nat) : LoopsOk (T := T) (Phi n 69) (laws_heldIntS_Ls n) laws_heldIntS_ann n laws_heldIntS_code := loopsOk_all (cs := [laws_heldIntS_2_c]) (by kernel_rfl) ⟨⟨_, by kernel_rfl, laws_heldIntS_2_le n⟩, trivial⟩
theorem laws_heldIntS_ok (n : Nat) : EntOk Tryz.prog (ents n) (laws_heldIntS_ent n) := by
  intro hs ar y hg h
  replace h : laws_heldIntS_D n ar = some y := h
  unfold laws_heldIntS_D at h
  replace h := ocons_some h
  obtain ⟨a0, r0, rfl, h⟩ := h
  replace h := ocons_some h
  obtain ⟨a1, r1, rfl, h⟩ := h
  replace h := onil_some h
  obtain ⟨rfl, h⟩ := h
  obtain ⟨a0, qh0, h⟩ := obind_some h
  obtain ⟨k1, qh1, h⟩ := obind_some h
  rw [argV_eq ok qh0, argV_eq ok qh1]
  exact call_of (phiE_nat _ _) hs ok mixed Tryz.func17 (c := laws_heldIntS_code) (by kernel_rfl) (laws_heldIntS_lo n) (by kernel_rfl) (by kernel_rfl) (by kernel_rfl) laws_heldIntS_de ((laws_heldIntS_tie n a0 k1).trans h)
noncomputable def laws_heldBook_code : Code := match Tryz.f16.body with | some c => c | none => .skip
def laws_heldBook_ann : Ann := fun id => none
def laws_heldBook_Ls (n : Nat) : Nat → Option (LSpec T) := fun id => none
theorem laws_heldBook_tie (n : Nat) (a0 : SBook) (k1 : Int) : evF (T := T) (Phi n 70) (laws_heldBook_Ls n) laws_heldBook_ann n Tryz.f16 (sg 16) [vA T 31 a0, vA T 3 k1] laws_heldBook_dec = laws_heldBook n a0 k1 := by kernel_rfl
theorem laws_heldBook_lo (n : Nat) : LoopsOk (T := T) (Phi n 70) (laws_heldBook_Ls n) laws_heldBook_ann n laws_heldBook_code := loopsOk_all (cs := []) (by kernel_rfl) trivial
theorem laws_heldBook_ok (n : Nat) : EntOk Tryz.prog (ents n) (laws_heldBook_ent n) := by
  intro hs ar y hg h
  replace h : laws_heldBook_D n ar = some y := h
  unfold laws_heldBook_D at h
  replace h := ocons_some h
  obtain ⟨a0, r0, rfl, h⟩ := h
  replace h := ocons_some h
  obtain ⟨a1, r1, rfl, h⟩ := h
  replace h := onil_some h
  obtain ⟨rfl, h⟩ := h
  obtain ⟨a0, qh0, h⟩ := obind_some h
  obtain ⟨k1, qh1, h⟩ := obind_some h
  rw [argV_eq ok qh0, argV_eq ok qh1]
  exact call_of (phiE_nat _ _) hs ok mixed Tryz.func16 (c := laws_heldBook_code) (by kernel_rfl) (laws_heldBook_lo n) (by kernel_rfl) (by kernel_rfl) (by kernel_rfl) laws_heldBook_de ((laws_heldBook_tie n a0 k1).trans h)
noncomputable def laws_FnExactRunBills_code : Code := match Tryz.f3.body with | some c => c | none => .skip
def laws_FnExactRunBills_ann : Ann := fun id => none
def laws_FnExactRunBills_Ls (n : Nat) : Nat → Option (LSpec T) := fun id => none
theorem laws_FnExactRunBills_tie (n : Nat) (aB0 : SBook) (aOps1 : List SBillOp) : evF (T := T) (Phi n 71) (laws_FnExactRunBills_Ls n) laws_FnExactRunBills_ann n Tryz.f3 (sg 3) [vA T 25 aB0, vA T 26 aOps1] laws_FnExactRunBills_dec = laws_FnExactRunBills n aB0 aOps1 := by kernel_rfl
theorem laws_FnExactRunBills_lo (n : Nat) : LoopsOk (T := T) (Phi n 71) (laws_FnExactRunBills_Ls n) laws_FnExactRunBills_ann n laws_FnExactRunBills_code := loopsOk_all (cs := []) (by kernel_rfl) trivial
theorem laws_FnExactRunBills_ok (n : Nat) : EntOk Tryz.prog (ents n) (laws_FnExactRunBills_ent n) := by
  intro hs ar y hg h
  replace h : laws_FnExactRunBills_D n ar = some y := h
  unfold laws_FnExactRunBills_D at h
  replace h := ocons_some h
  obtain ⟨a0, r0, rfl, h⟩ := h
  replace h := ocons_some h
  obtain ⟨a1, r1, rfl, h⟩ := h
  replace h := onil_some h
  obtain ⟨rfl, h⟩ := h
  obtain ⟨aB0, qh0, h⟩ := obind_some h
  obtain ⟨aOps1, qh1, h⟩ := obind_some h
  rw [argV_eq ok qh0, argV_eq ok qh1]
  exact call_of (phiE_nat _ _) hs ok mixed Tryz.func3 (c := laws_FnExactRunBills_code) (by kernel_rfl) (laws_FnExactRunBills_lo n) (by kernel_rfl) (by kernel_rfl) (by kernel_rfl) laws_FnExactRunBills_de ((laws_FnExactRunBills_tie n aB0 aOps1).trans h)
theorem entsOk (n : Nat) : EntsOk Tryz.prog (ents n) (ents n) := ⟨laws_szStringS_ok n, laws_szBill_ok n, laws_szBillS_ok n, laws_szIntS_ok n, laws_szBook_ok n, laws_szBillOp_ok n, laws_szBillOpS_ok n, laws_toStringS_ok n, laws_toBill_ok n, laws_toBillS_ok n, laws_toIntS_ok n, laws_toBook_ok n, laws_toBillOp_ok n, laws_toBillOpS_ok n, spec_l14Copy_ok n, spec_l1In_ok n, spec_l1Name_ok n, spec_l14Find_ok n, spec_BookOk_ok n, spec_l14Op_ok n, spec_l14Made_ok n, spec_l9Has_ok n, spec_l14Holds_ok n, spec_l14Do_ok n, spec_DoBill_ok n, spec_RunBills_ok n, impl_own_impl_Bill_ok n, impl_own_string_ok n, impl_own_int_ok n, impl_Book_own_ok n, impl_nameOk_ok n, impl_in_ok n, impl_idRight_ok n, impl_emptyOrName_ok n, impl_BookOk_1_ok n, slices_IndexFunc_string_string__impl_BookOk_1_ok n, slices_ContainsFunc_string_string__impl_BookOk_1_ok n, impl_BookOk_ok n, impl_Book_at_1_ok n, slices_IndexFunc_impl_Bill_impl_Bill__impl_Book_at_1_ok n, impl_Book_at_ok n, impl_heldBy_ok n, impl_DoBill_1_ok n, slices_SortFunc_impl_Bill_impl_Bill__impl_DoBill_1_ok n, slices_Index_int_int_ok n, slices_Contains_int_int_ok n, slices_Index_string_string_ok n, slices_Contains_string_string_ok n, slices_Sort_int_int_ok n, impl_DoBill_2_ok n, slices_IndexFunc_string_string__impl_DoBill_2_ok n, slices_ContainsFunc_string_string__impl_DoBill_2_ok n, impl_DoBill_ok n, impl_RunBills_ok n, laws_eqStringS_ok n, laws_eqBill_ok n, laws_eqBillS_ok n, laws_eqIntS_ok n, laws_eqBook_ok n, laws_eqBillOp_ok n, laws_eqBillOpS_ok n, laws_markText_ok n, laws_markStringS_ok n, laws_markBillS_ok n, laws_markIntS_ok n, laws_markBook_ok n, laws_markBillOpS_ok n, laws_heldStringS_ok n, laws_heldBillS_ok n, laws_heldIntS_ok n, laws_heldBook_ok n, laws_FnExactRunBills_ok n, trivial⟩
theorem sem (n i : Nat) : SemOk (Phi n i) (CallOk Tryz.prog T) := phiE_ok (entsOk n) i
end Go.Sm.Z3
