import Derived.Test.YtefibegfcfbcjaaD3Tb
import Derived.KernelRfl
/- Each function's code computes what the plain function computes. -/
set_option linter.unusedSimpArgs false
set_option linter.deprecated false
set_option linter.unusedSectionVars false
set_option linter.unusedVariables false
set_option maxRecDepth 100000
open Go Go.Proofs
noncomputable section
namespace Go.Sm.D3
/-- By recursors, and of a greater height than all of the functions: the kernel takes these apart first. -/
def obind {α β : Type} (o : Option α) (f : α → Option β) : Option β := let _ := @laws_FnExactTitleOf; Option.rec (motive := fun _ => Option β) none (fun a => f a) o
theorem obind_some {α β : Type} {o : Option α} {f : α → Option β} {y : β} (h : obind o f = some y) : ∃ a, o = some a ∧ f a = some y := by
  cases o with
  | none => cases h
  | some a => exact ⟨a, rfl, h⟩
def ocons {β : Type} (l : List (A T)) (f : A T → List (A T) → Option β) : Option β := let _ := @laws_FnExactTitleOf; List.rec (motive := fun _ => Option β) none (fun a r _ => f a r) l
theorem ocons_some {β : Type} {l : List (A T)} {f : A T → List (A T) → Option β} {y : β} (h : ocons l f = some y) : ∃ a r, l = a :: r ∧ f a r = some y := by
  cases l with
  | nil => cases h
  | cons a r => exact ⟨a, r, rfl, h⟩
def onil {β : Type} (l : List (A T)) (x : Option β) : Option β := let _ := @laws_FnExactTitleOf; List.rec (motive := fun _ => Option β) x (fun _ _ _ => none) l
theorem onil_some {β : Type} {l : List (A T)} {x : Option β} {y : β} (h : onil l x = some y) : l = [] ∧ x = some y := by
  cases l with
  | nil => exact ⟨rfl, h⟩
  | cons a r => cases h
def laws_szStringS_dec (res : Res T) : Option Int := match res.rets, res.outs with
  | [a0], [] => (retV (T := T) 3 a0).bind fun r0 => some (r0)
  | _, _ => none
def laws_szStringS_enc (y : Int) : Res T := ⟨[vR T 3 y], []⟩
theorem laws_szStringS_de (res : Res T) (y : Int) (h : laws_szStringS_dec res = some y) : res = laws_szStringS_enc y := by
  obtain ⟨rets, outs⟩ := res
  unfold laws_szStringS_dec at h
  dsimp only at h
  split at h
  · obtain ⟨r0, h0, h⟩ := Option.bind_eq_some_iff.1 h
    cases h
    rw [retV_eq ok h0]
    rfl
  · cases h
def laws_szBill_dec (res : Res T) : Option Int := match res.rets, res.outs with
  | [a0], [] => (retV (T := T) 3 a0).bind fun r0 => some (r0)
  | _, _ => none
def laws_szBill_enc (y : Int) : Res T := ⟨[vR T 3 y], []⟩
theorem laws_szBill_de (res : Res T) (y : Int) (h : laws_szBill_dec res = some y) : res = laws_szBill_enc y := by
  obtain ⟨rets, outs⟩ := res
  unfold laws_szBill_dec at h
  dsimp only at h
  split at h
  · obtain ⟨r0, h0, h⟩ := Option.bind_eq_some_iff.1 h
    cases h
    rw [retV_eq ok h0]
    rfl
  · cases h
def laws_szBillS_dec (res : Res T) : Option Int := match res.rets, res.outs with
  | [a0], [] => (retV (T := T) 3 a0).bind fun r0 => some (r0)
  | _, _ => none
def laws_szBillS_enc (y : Int) : Res T := ⟨[vR T 3 y], []⟩
theorem laws_szBillS_de (res : Res T) (y : Int) (h : laws_szBillS_dec res = some y) : res = laws_szBillS_enc y := by
  obtain ⟨rets, outs⟩ := res
  unfold laws_szBillS_dec at h
  dsimp only at h
  split at h
  · obtain ⟨r0, h0, h⟩ := Option.bind_eq_some_iff.1 h
    cases h
    rw [retV_eq ok h0]
    rfl
  · cases h
def laws_szIntS_dec (res : Res T) : Option Int := match res.rets, res.outs with
  | [a0], [] => (retV (T := T) 3 a0).bind fun r0 => some (r0)
  | _, _ => none
def laws_szIntS_enc (y : Int) : Res T := ⟨[vR T 3 y], []⟩
theorem laws_szIntS_de (res : Res T) (y : Int) (h : laws_szIntS_dec res = some y) : res = laws_szIntS_enc y := by
  obtain ⟨rets, outs⟩ := res
  unfold laws_szIntS_dec at h
  dsimp only at h
  split at h
  · obtain ⟨r0, h0, h⟩ := Option.bind_eq_some_iff.1 h
    cases h
    rw [retV_eq ok h0]
    rfl
  · cases h
def laws_szBook_dec (res : Res T) : Option Int := match res.rets, res.outs with
  | [a0], [] => (retV (T := T) 3 a0).bind fun r0 => some (r0)
  | _, _ => none
def laws_szBook_enc (y : Int) : Res T := ⟨[vR T 3 y], []⟩
theorem laws_szBook_de (res : Res T) (y : Int) (h : laws_szBook_dec res = some y) : res = laws_szBook_enc y := by
  obtain ⟨rets, outs⟩ := res
  unfold laws_szBook_dec at h
  dsimp only at h
  split at h
  · obtain ⟨r0, h0, h⟩ := Option.bind_eq_some_iff.1 h
    cases h
    rw [retV_eq ok h0]
    rfl
  · cases h
def laws_toStringS_dec (res : Res T) : Option (List ByteArray) := match res.rets, res.outs with
  | [a0], [] => (retV (T := T) 77 a0).bind fun r0 => some (r0)
  | _, _ => none
def laws_toStringS_enc (y : List ByteArray) : Res T := ⟨[vR T 77 y], []⟩
theorem laws_toStringS_de (res : Res T) (y : List ByteArray) (h : laws_toStringS_dec res = some y) : res = laws_toStringS_enc y := by
  obtain ⟨rets, outs⟩ := res
  unfold laws_toStringS_dec at h
  dsimp only at h
  split at h
  · obtain ⟨r0, h0, h⟩ := Option.bind_eq_some_iff.1 h
    cases h
    rw [retV_eq ok h0]
    rfl
  · cases h
def laws_toBill_dec (res : Res T) : Option SBill := match res.rets, res.outs with
  | [a0], [] => (retV (T := T) 79 a0).bind fun r0 => some (r0)
  | _, _ => none
def laws_toBill_enc (y : SBill) : Res T := ⟨[vR T 79 y], []⟩
theorem laws_toBill_de (res : Res T) (y : SBill) (h : laws_toBill_dec res = some y) : res = laws_toBill_enc y := by
  obtain ⟨rets, outs⟩ := res
  unfold laws_toBill_dec at h
  dsimp only at h
  split at h
  · obtain ⟨r0, h0, h⟩ := Option.bind_eq_some_iff.1 h
    cases h
    rw [retV_eq ok h0]
    rfl
  · cases h
def laws_toBillS_dec (res : Res T) : Option (List SBill) := match res.rets, res.outs with
  | [a0], [] => (retV (T := T) 29 a0).bind fun r0 => some (r0)
  | _, _ => none
def laws_toBillS_enc (y : List SBill) : Res T := ⟨[vR T 29 y], []⟩
theorem laws_toBillS_de (res : Res T) (y : List SBill) (h : laws_toBillS_dec res = some y) : res = laws_toBillS_enc y := by
  obtain ⟨rets, outs⟩ := res
  unfold laws_toBillS_dec at h
  dsimp only at h
  split at h
  · obtain ⟨r0, h0, h⟩ := Option.bind_eq_some_iff.1 h
    cases h
    rw [retV_eq ok h0]
    rfl
  · cases h
def laws_toIntS_dec (res : Res T) : Option (List Int) := match res.rets, res.outs with
  | [a0], [] => (retV (T := T) 23 a0).bind fun r0 => some (r0)
  | _, _ => none
def laws_toIntS_enc (y : List Int) : Res T := ⟨[vR T 23 y], []⟩
theorem laws_toIntS_de (res : Res T) (y : List Int) (h : laws_toIntS_dec res = some y) : res = laws_toIntS_enc y := by
  obtain ⟨rets, outs⟩ := res
  unfold laws_toIntS_dec at h
  dsimp only at h
  split at h
  · obtain ⟨r0, h0, h⟩ := Option.bind_eq_some_iff.1 h
    cases h
    rw [retV_eq ok h0]
    rfl
  · cases h
def laws_toBook_dec (res : Res T) : Option SBook := match res.rets, res.outs with
  | [a0], [] => (retV (T := T) 31 a0).bind fun r0 => some (r0)
  | _, _ => none
def laws_toBook_enc (y : SBook) : Res T := ⟨[vR T 31 y], []⟩
theorem laws_toBook_de (res : Res T) (y : SBook) (h : laws_toBook_dec res = some y) : res = laws_toBook_enc y := by
  obtain ⟨rets, outs⟩ := res
  unfold laws_toBook_dec at h
  dsimp only at h
  split at h
  · obtain ⟨r0, h0, h⟩ := Option.bind_eq_some_iff.1 h
    cases h
    rw [retV_eq ok h0]
    rfl
  · cases h
def spec_l14Find_dec (res : Res T) : Option Int := match res.rets, res.outs with
  | [a0], [] => (retV (T := T) 3 a0).bind fun r0 => some (r0)
  | _, _ => none
def spec_l14Find_enc (y : Int) : Res T := ⟨[vR T 3 y], []⟩
theorem spec_l14Find_de (res : Res T) (y : Int) (h : spec_l14Find_dec res = some y) : res = spec_l14Find_enc y := by
  obtain ⟨rets, outs⟩ := res
  unfold spec_l14Find_dec at h
  dsimp only at h
  split at h
  · obtain ⟨r0, h0, h⟩ := Option.bind_eq_some_iff.1 h
    cases h
    rw [retV_eq ok h0]
    rfl
  · cases h
def spec_l1In_dec (res : Res T) : Option Bool := match res.rets, res.outs with
  | [a0], [] => (retV (T := T) 4 a0).bind fun r0 => some (r0)
  | _, _ => none
def spec_l1In_enc (y : Bool) : Res T := ⟨[vR T 4 y], []⟩
theorem spec_l1In_de (res : Res T) (y : Bool) (h : spec_l1In_dec res = some y) : res = spec_l1In_enc y := by
  obtain ⟨rets, outs⟩ := res
  unfold spec_l1In_dec at h
  dsimp only at h
  split at h
  · obtain ⟨r0, h0, h⟩ := Option.bind_eq_some_iff.1 h
    cases h
    rw [retV_eq ok h0]
    rfl
  · cases h
def spec_l1Name_dec (res : Res T) : Option Bool := match res.rets, res.outs with
  | [a0], [] => (retV (T := T) 4 a0).bind fun r0 => some (r0)
  | _, _ => none
def spec_l1Name_enc (y : Bool) : Res T := ⟨[vR T 4 y], []⟩
theorem spec_l1Name_de (res : Res T) (y : Bool) (h : spec_l1Name_dec res = some y) : res = spec_l1Name_enc y := by
  obtain ⟨rets, outs⟩ := res
  unfold spec_l1Name_dec at h
  dsimp only at h
  split at h
  · obtain ⟨r0, h0, h⟩ := Option.bind_eq_some_iff.1 h
    cases h
    rw [retV_eq ok h0]
    rfl
  · cases h
def spec_BookOk_dec (res : Res T) : Option Bool := match res.rets, res.outs with
  | [a0], [] => (retV (T := T) 4 a0).bind fun r0 => some (r0)
  | _, _ => none
def spec_BookOk_enc (y : Bool) : Res T := ⟨[vR T 4 y], []⟩
theorem spec_BookOk_de (res : Res T) (y : Bool) (h : spec_BookOk_dec res = some y) : res = spec_BookOk_enc y := by
  obtain ⟨rets, outs⟩ := res
  unfold spec_BookOk_dec at h
  dsimp only at h
  split at h
  · obtain ⟨r0, h0, h⟩ := Option.bind_eq_some_iff.1 h
    cases h
    rw [retV_eq ok h0]
    rfl
  · cases h
def spec_l9Has_dec (res : Res T) : Option Bool := match res.rets, res.outs with
  | [a0], [] => (retV (T := T) 4 a0).bind fun r0 => some (r0)
  | _, _ => none
def spec_l9Has_enc (y : Bool) : Res T := ⟨[vR T 4 y], []⟩
theorem spec_l9Has_de (res : Res T) (y : Bool) (h : spec_l9Has_dec res = some y) : res = spec_l9Has_enc y := by
  obtain ⟨rets, outs⟩ := res
  unfold spec_l9Has_dec at h
  dsimp only at h
  split at h
  · obtain ⟨r0, h0, h⟩ := Option.bind_eq_some_iff.1 h
    cases h
    rw [retV_eq ok h0]
    rfl
  · cases h
def spec_TitleOf_dec (res : Res T) : Option (ByteArray × Bool) := match res.rets, res.outs with
  | [a0, a1], [] => (retV (T := T) 9 a0).bind fun r0 => (retV (T := T) 4 a1).bind fun r1 => some (r0, r1)
  | _, _ => none
def spec_TitleOf_enc (y : ByteArray × Bool) : Res T := ⟨[vR T 9 y.1, vR T 4 y.2], []⟩
theorem spec_TitleOf_de (res : Res T) (y : ByteArray × Bool) (h : spec_TitleOf_dec res = some y) : res = spec_TitleOf_enc y := by
  obtain ⟨rets, outs⟩ := res
  unfold spec_TitleOf_dec at h
  dsimp only at h
  split at h
  · obtain ⟨r0, h0, h⟩ := Option.bind_eq_some_iff.1 h
    obtain ⟨r1, h1, h⟩ := Option.bind_eq_some_iff.1 h
    cases h
    rw [retV_eq ok h0, retV_eq ok h1]
    rfl
  · cases h
def impl_in_dec (res : Res T) : Option Bool := match res.rets, res.outs with
  | [a0], [] => (retV (T := T) 4 a0).bind fun r0 => some (r0)
  | _, _ => none
def impl_in_enc (y : Bool) : Res T := ⟨[vR T 4 y], []⟩
theorem impl_in_de (res : Res T) (y : Bool) (h : impl_in_dec res = some y) : res = impl_in_enc y := by
  obtain ⟨rets, outs⟩ := res
  unfold impl_in_dec at h
  dsimp only at h
  split at h
  · obtain ⟨r0, h0, h⟩ := Option.bind_eq_some_iff.1 h
    cases h
    rw [retV_eq ok h0]
    rfl
  · cases h
def impl_idRight_dec (res : Res T) : Option Bool := match res.rets, res.outs with
  | [a0], [] => (retV (T := T) 4 a0).bind fun r0 => some (r0)
  | _, _ => none
def impl_idRight_enc (y : Bool) : Res T := ⟨[vR T 4 y], []⟩
theorem impl_idRight_de (res : Res T) (y : Bool) (h : impl_idRight_dec res = some y) : res = impl_idRight_enc y := by
  obtain ⟨rets, outs⟩ := res
  unfold impl_idRight_dec at h
  dsimp only at h
  split at h
  · obtain ⟨r0, h0, h⟩ := Option.bind_eq_some_iff.1 h
    cases h
    rw [retV_eq ok h0]
    rfl
  · cases h
def impl_nameOk_dec (res : Res T) : Option Bool := match res.rets, res.outs with
  | [a0], [] => (retV (T := T) 4 a0).bind fun r0 => some (r0)
  | _, _ => none
def impl_nameOk_enc (y : Bool) : Res T := ⟨[vR T 4 y], []⟩
theorem impl_nameOk_de (res : Res T) (y : Bool) (h : impl_nameOk_dec res = some y) : res = impl_nameOk_enc y := by
  obtain ⟨rets, outs⟩ := res
  unfold impl_nameOk_dec at h
  dsimp only at h
  split at h
  · obtain ⟨r0, h0, h⟩ := Option.bind_eq_some_iff.1 h
    cases h
    rw [retV_eq ok h0]
    rfl
  · cases h
def impl_emptyOrName_dec (res : Res T) : Option Bool := match res.rets, res.outs with
  | [a0], [] => (retV (T := T) 4 a0).bind fun r0 => some (r0)
  | _, _ => none
def impl_emptyOrName_enc (y : Bool) : Res T := ⟨[vR T 4 y], []⟩
theorem impl_emptyOrName_de (res : Res T) (y : Bool) (h : impl_emptyOrName_dec res = some y) : res = impl_emptyOrName_enc y := by
  obtain ⟨rets, outs⟩ := res
  unfold impl_emptyOrName_dec at h
  dsimp only at h
  split at h
  · obtain ⟨r0, h0, h⟩ := Option.bind_eq_some_iff.1 h
    cases h
    rw [retV_eq ok h0]
    rfl
  · cases h
def impl_BookOk_1_dec (res : Res T) : Option Bool := match res.rets, res.outs with
  | [a0], [] => (retV (T := T) 4 a0).bind fun r0 => some (r0)
  | _, _ => none
def impl_BookOk_1_enc (y : Bool) : Res T := ⟨[vR T 4 y], []⟩
theorem impl_BookOk_1_de (res : Res T) (y : Bool) (h : impl_BookOk_1_dec res = some y) : res = impl_BookOk_1_enc y := by
  obtain ⟨rets, outs⟩ := res
  unfold impl_BookOk_1_dec at h
  dsimp only at h
  split at h
  · obtain ⟨r0, h0, h⟩ := Option.bind_eq_some_iff.1 h
    cases h
    rw [retV_eq ok h0]
    rfl
  · cases h
def slices_IndexFunc_string_string__impl_BookOk_1_dec (res : Res T) : Option Int := match res.rets, res.outs with
  | [a0], [] => (retV (T := T) 3 a0).bind fun r0 => some (r0)
  | _, _ => none
def slices_IndexFunc_string_string__impl_BookOk_1_enc (y : Int) : Res T := ⟨[vR T 3 y], []⟩
theorem slices_IndexFunc_string_string__impl_BookOk_1_de (res : Res T) (y : Int) (h : slices_IndexFunc_string_string__impl_BookOk_1_dec res = some y) : res = slices_IndexFunc_string_string__impl_BookOk_1_enc y := by
  obtain ⟨rets, outs⟩ := res
  unfold slices_IndexFunc_string_string__impl_BookOk_1_dec at h
  dsimp only at h
  split at h
  · obtain ⟨r0, h0, h⟩ := Option.bind_eq_some_iff.1 h
    cases h
    rw [retV_eq ok h0]
    rfl
  · cases h
def slices_ContainsFunc_string_string__impl_BookOk_1_dec (res : Res T) : Option Bool := match res.rets, res.outs with
  | [a0], [] => (retV (T := T) 4 a0).bind fun r0 => some (r0)
  | _, _ => none
def slices_ContainsFunc_string_string__impl_BookOk_1_enc (y : Bool) : Res T := ⟨[vR T 4 y], []⟩
theorem slices_ContainsFunc_string_string__impl_BookOk_1_de (res : Res T) (y : Bool) (h : slices_ContainsFunc_string_string__impl_BookOk_1_dec res = some y) : res = slices_ContainsFunc_string_string__impl_BookOk_1_enc y := by
  obtain ⟨rets, outs⟩ := res
  unfold slices_ContainsFunc_string_string__impl_BookOk_1_dec at h
  dsimp only at h
  split at h
  · obtain ⟨r0, h0, h⟩ := Option.bind_eq_some_iff.1 h
    cases h
    rw [retV_eq ok h0]
    rfl
  · cases h
def impl_BookOk_dec (res : Res T) : Option Bool := match res.rets, res.outs with
  | [a0], [] => (retV (T := T) 4 a0).bind fun r0 => some (r0)
  | _, _ => none
def impl_BookOk_enc (y : Bool) : Res T := ⟨[vR T 4 y], []⟩
theorem impl_BookOk_de (res : Res T) (y : Bool) (h : impl_BookOk_dec res = some y) : res = impl_BookOk_enc y := by
  obtain ⟨rets, outs⟩ := res
  unfold impl_BookOk_dec at h
  dsimp only at h
  split at h
  · obtain ⟨r0, h0, h⟩ := Option.bind_eq_some_iff.1 h
    cases h
    rw [retV_eq ok h0]
    rfl
  · cases h
def impl_Book_at_1_dec (res : Res T) : Option Bool := match res.rets, res.outs with
  | [a0], [] => (retV (T := T) 4 a0).bind fun r0 => some (r0)
  | _, _ => none
def impl_Book_at_1_enc (y : Bool) : Res T := ⟨[vR T 4 y], []⟩
theorem impl_Book_at_1_de (res : Res T) (y : Bool) (h : impl_Book_at_1_dec res = some y) : res = impl_Book_at_1_enc y := by
  obtain ⟨rets, outs⟩ := res
  unfold impl_Book_at_1_dec at h
  dsimp only at h
  split at h
  · obtain ⟨r0, h0, h⟩ := Option.bind_eq_some_iff.1 h
    cases h
    rw [retV_eq ok h0]
    rfl
  · cases h
def slices_IndexFunc_impl_Bill_impl_Bill__impl_Book_at_1_dec (res : Res T) : Option Int := match res.rets, res.outs with
  | [a0], [] => (retV (T := T) 3 a0).bind fun r0 => some (r0)
  | _, _ => none
def slices_IndexFunc_impl_Bill_impl_Bill__impl_Book_at_1_enc (y : Int) : Res T := ⟨[vR T 3 y], []⟩
theorem slices_IndexFunc_impl_Bill_impl_Bill__impl_Book_at_1_de (res : Res T) (y : Int) (h : slices_IndexFunc_impl_Bill_impl_Bill__impl_Book_at_1_dec res = some y) : res = slices_IndexFunc_impl_Bill_impl_Bill__impl_Book_at_1_enc y := by
  obtain ⟨rets, outs⟩ := res
  unfold slices_IndexFunc_impl_Bill_impl_Bill__impl_Book_at_1_dec at h
  dsimp only at h
  split at h
  · obtain ⟨r0, h0, h⟩ := Option.bind_eq_some_iff.1 h
    cases h
    rw [retV_eq ok h0]
    rfl
  · cases h
def impl_Book_at_dec (res : Res T) : Option Int := match res.rets, res.outs with
  | [a0], [] => (retV (T := T) 3 a0).bind fun r0 => some (r0)
  | _, _ => none
def impl_Book_at_enc (y : Int) : Res T := ⟨[vR T 3 y], []⟩
theorem impl_Book_at_de (res : Res T) (y : Int) (h : impl_Book_at_dec res = some y) : res = impl_Book_at_enc y := by
  obtain ⟨rets, outs⟩ := res
  unfold impl_Book_at_dec at h
  dsimp only at h
  split at h
  · obtain ⟨r0, h0, h⟩ := Option.bind_eq_some_iff.1 h
    cases h
    rw [retV_eq ok h0]
    rfl
  · cases h
def slices_Index_int_int_dec (res : Res T) : Option Int := match res.rets, res.outs with
  | [a0], [] => (retV (T := T) 3 a0).bind fun r0 => some (r0)
  | _, _ => none
def slices_Index_int_int_enc (y : Int) : Res T := ⟨[vR T 3 y], []⟩
theorem slices_Index_int_int_de (res : Res T) (y : Int) (h : slices_Index_int_int_dec res = some y) : res = slices_Index_int_int_enc y := by
  obtain ⟨rets, outs⟩ := res
  unfold slices_Index_int_int_dec at h
  dsimp only at h
  split at h
  · obtain ⟨r0, h0, h⟩ := Option.bind_eq_some_iff.1 h
    cases h
    rw [retV_eq ok h0]
    rfl
  · cases h
def slices_Contains_int_int_dec (res : Res T) : Option Bool := match res.rets, res.outs with
  | [a0], [] => (retV (T := T) 4 a0).bind fun r0 => some (r0)
  | _, _ => none
def slices_Contains_int_int_enc (y : Bool) : Res T := ⟨[vR T 4 y], []⟩
theorem slices_Contains_int_int_de (res : Res T) (y : Bool) (h : slices_Contains_int_int_dec res = some y) : res = slices_Contains_int_int_enc y := by
  obtain ⟨rets, outs⟩ := res
  unfold slices_Contains_int_int_dec at h
  dsimp only at h
  split at h
  · obtain ⟨r0, h0, h⟩ := Option.bind_eq_some_iff.1 h
    cases h
    rw [retV_eq ok h0]
    rfl
  · cases h
def impl_TitleOf_dec (res : Res T) : Option (ByteArray × Bool) := match res.rets, res.outs with
  | [a0, a1], [] => (retV (T := T) 9 a0).bind fun r0 => (retV (T := T) 4 a1).bind fun r1 => some (r0, r1)
  | _, _ => none
def impl_TitleOf_enc (y : ByteArray × Bool) : Res T := ⟨[vR T 9 y.1, vR T 4 y.2], []⟩
theorem impl_TitleOf_de (res : Res T) (y : ByteArray × Bool) (h : impl_TitleOf_dec res = some y) : res = impl_TitleOf_enc y := by
  obtain ⟨rets, outs⟩ := res
  unfold impl_TitleOf_dec at h
  dsimp only at h
  split at h
  · obtain ⟨r0, h0, h⟩ := Option.bind_eq_some_iff.1 h
    obtain ⟨r1, h1, h⟩ := Option.bind_eq_some_iff.1 h
    cases h
    rw [retV_eq ok h0, retV_eq ok h1]
    rfl
  · cases h
def laws_eqStringS_dec (res : Res T) : Option Bool := match res.rets, res.outs with
  | [a0], [] => (retV (T := T) 4 a0).bind fun r0 => some (r0)
  | _, _ => none
def laws_eqStringS_enc (y : Bool) : Res T := ⟨[vR T 4 y], []⟩
theorem laws_eqStringS_de (res : Res T) (y : Bool) (h : laws_eqStringS_dec res = some y) : res = laws_eqStringS_enc y := by
  obtain ⟨rets, outs⟩ := res
  unfold laws_eqStringS_dec at h
  dsimp only at h
  split at h
  · obtain ⟨r0, h0, h⟩ := Option.bind_eq_some_iff.1 h
    cases h
    rw [retV_eq ok h0]
    rfl
  · cases h
def laws_eqBill_dec (res : Res T) : Option Bool := match res.rets, res.outs with
  | [a0], [] => (retV (T := T) 4 a0).bind fun r0 => some (r0)
  | _, _ => none
def laws_eqBill_enc (y : Bool) : Res T := ⟨[vR T 4 y], []⟩
theorem laws_eqBill_de (res : Res T) (y : Bool) (h : laws_eqBill_dec res = some y) : res = laws_eqBill_enc y := by
  obtain ⟨rets, outs⟩ := res
  unfold laws_eqBill_dec at h
  dsimp only at h
  split at h
  · obtain ⟨r0, h0, h⟩ := Option.bind_eq_some_iff.1 h
    cases h
    rw [retV_eq ok h0]
    rfl
  · cases h
def laws_eqBillS_dec (res : Res T) : Option Bool := match res.rets, res.outs with
  | [a0], [] => (retV (T := T) 4 a0).bind fun r0 => some (r0)
  | _, _ => none
def laws_eqBillS_enc (y : Bool) : Res T := ⟨[vR T 4 y], []⟩
theorem laws_eqBillS_de (res : Res T) (y : Bool) (h : laws_eqBillS_dec res = some y) : res = laws_eqBillS_enc y := by
  obtain ⟨rets, outs⟩ := res
  unfold laws_eqBillS_dec at h
  dsimp only at h
  split at h
  · obtain ⟨r0, h0, h⟩ := Option.bind_eq_some_iff.1 h
    cases h
    rw [retV_eq ok h0]
    rfl
  · cases h
def laws_eqIntS_dec (res : Res T) : Option Bool := match res.rets, res.outs with
  | [a0], [] => (retV (T := T) 4 a0).bind fun r0 => some (r0)
  | _, _ => none
def laws_eqIntS_enc (y : Bool) : Res T := ⟨[vR T 4 y], []⟩
theorem laws_eqIntS_de (res : Res T) (y : Bool) (h : laws_eqIntS_dec res = some y) : res = laws_eqIntS_enc y := by
  obtain ⟨rets, outs⟩ := res
  unfold laws_eqIntS_dec at h
  dsimp only at h
  split at h
  · obtain ⟨r0, h0, h⟩ := Option.bind_eq_some_iff.1 h
    cases h
    rw [retV_eq ok h0]
    rfl
  · cases h
def laws_eqBook_dec (res : Res T) : Option Bool := match res.rets, res.outs with
  | [a0], [] => (retV (T := T) 4 a0).bind fun r0 => some (r0)
  | _, _ => none
def laws_eqBook_enc (y : Bool) : Res T := ⟨[vR T 4 y], []⟩
theorem laws_eqBook_de (res : Res T) (y : Bool) (h : laws_eqBook_dec res = some y) : res = laws_eqBook_enc y := by
  obtain ⟨rets, outs⟩ := res
  unfold laws_eqBook_dec at h
  dsimp only at h
  split at h
  · obtain ⟨r0, h0, h⟩ := Option.bind_eq_some_iff.1 h
    cases h
    rw [retV_eq ok h0]
    rfl
  · cases h
def laws_FnExactTitleOf_dec (res : Res T) : Option Bool := match res.rets, res.outs with
  | [a0], [] => (retV (T := T) 4 a0).bind fun r0 => some (r0)
  | _, _ => none
def laws_FnExactTitleOf_enc (y : Bool) : Res T := ⟨[vR T 4 y], []⟩
theorem laws_FnExactTitleOf_de (res : Res T) (y : Bool) (h : laws_FnExactTitleOf_dec res = some y) : res = laws_FnExactTitleOf_enc y := by
  obtain ⟨rets, outs⟩ := res
  unfold laws_FnExactTitleOf_dec at h
  dsimp only at h
  split at h
  · obtain ⟨r0, h0, h⟩ := Option.bind_eq_some_iff.1 h
    cases h
    rw [retV_eq ok h0]
    rfl
  · cases h
def laws_szStringS_D (n : Nat) (r0 : List (A T)) : Option Int := ocons r0 fun a0 r1 => ocons r1 fun a1 r2 => onil r2 (obind (argV (T := T) 77 a0) fun a0 => obind (argV (T := T) 3 a1) fun left1 => laws_szStringS n a0 left1)
def laws_szStringS_ent (n : Nat) : Ent T := ⟨214, 0, [], Int, laws_szStringS_D n, laws_szStringS_enc⟩
def laws_szBill_D (n : Nat) (r0 : List (A T)) : Option Int := ocons r0 fun a0 r1 => ocons r1 fun a1 r2 => onil r2 (obind (argV (T := T) 215 a0) fun a0 => obind (argV (T := T) 3 a1) fun left1 => laws_szBill n a0 left1)
def laws_szBill_ent (n : Nat) : Ent T := ⟨173, 1, [], Int, laws_szBill_D n, laws_szBill_enc⟩
def laws_szBillS_D (n : Nat) (r0 : List (A T)) : Option Int := ocons r0 fun a0 r1 => ocons r1 fun a1 r2 => onil r2 (obind (argV (T := T) 22 a0) fun a0 => obind (argV (T := T) 3 a1) fun left1 => laws_szBillS n a0 left1)
def laws_szBillS_ent (n : Nat) : Ent T := ⟨82, 2, [], Int, laws_szBillS_D n, laws_szBillS_enc⟩
def laws_szIntS_D (n : Nat) (r0 : List (A T)) : Option Int := ocons r0 fun a0 r1 => ocons r1 fun a1 r2 => onil r2 (obind (argV (T := T) 23 a0) fun a0 => obind (argV (T := T) 3 a1) fun left1 => laws_szIntS n a0 left1)
def laws_szIntS_ent (n : Nat) : Ent T := ⟨83, 3, [], Int, laws_szIntS_D n, laws_szIntS_enc⟩
def laws_szBook_D (n : Nat) (r0 : List (A T)) : Option Int := ocons r0 fun a0 r1 => ocons r1 fun a1 r2 => onil r2 (obind (argV (T := T) 25 a0) fun a0 => obind (argV (T := T) 3 a1) fun left1 => laws_szBook n a0 left1)
def laws_szBook_ent (n : Nat) : Ent T := ⟨14, 4, [], Int, laws_szBook_D n, laws_szBook_enc⟩
def laws_toStringS_D (n : Nat) (r0 : List (A T)) : Option (List ByteArray) := ocons r0 fun a0 r1 => onil r1 (obind (argV (T := T) 77 a0) fun a0 => laws_toStringS n a0)
def laws_toStringS_ent (n : Nat) : Ent T := ⟨215, 5, [], List ByteArray, laws_toStringS_D n, laws_toStringS_enc⟩
def laws_toBill_D (n : Nat) (r0 : List (A T)) : Option SBill := ocons r0 fun a0 r1 => onil r1 (obind (argV (T := T) 215 a0) fun a0 => laws_toBill n a0)
def laws_toBill_ent (n : Nat) : Ent T := ⟨176, 6, [], SBill, laws_toBill_D n, laws_toBill_enc⟩
def laws_toBillS_D (n : Nat) (r0 : List (A T)) : Option (List SBill) := ocons r0 fun a0 r1 => onil r1 (obind (argV (T := T) 22 a0) fun a0 => laws_toBillS n a0)
def laws_toBillS_ent (n : Nat) : Ent T := ⟨87, 7, [], List SBill, laws_toBillS_D n, laws_toBillS_enc⟩
def laws_toIntS_D (n : Nat) (r0 : List (A T)) : Option (List Int) := ocons r0 fun a0 r1 => onil r1 (obind (argV (T := T) 23 a0) fun a0 => laws_toIntS n a0)
def laws_toIntS_ent (n : Nat) : Ent T := ⟨88, 8, [], List Int, laws_toIntS_D n, laws_toIntS_enc⟩
def laws_toBook_D (n : Nat) (r0 : List (A T)) : Option SBook := ocons r0 fun a0 r1 => onil r1 (obind (argV (T := T) 25 a0) fun a0 => laws_toBook n a0)
def laws_toBook_ent (n : Nat) : Ent T := ⟨16, 9, [], SBook, laws_toBook_D n, laws_toBook_enc⟩
def spec_l14Find_D (n : Nat) (r0 : List (A T)) : Option Int := ocons r0 fun a0 r1 => ocons r1 fun a1 r2 => onil r2 (obind (argV (T := T) 31 a0) fun b0 => obind (argV (T := T) 3 a1) fun id1 => spec_l14Find n b0 id1)
def spec_l14Find_ent (n : Nat) : Ent T := ⟨84, 10, [], Int, spec_l14Find_D n, spec_l14Find_enc⟩
def spec_l1In_D (n : Nat) (r0 : List (A T)) : Option Bool := ocons r0 fun a0 r1 => ocons r1 fun a1 r2 => ocons r2 fun a2 r3 => onil r3 (obind (argV (T := T) 3 a0) fun x0 => obind (argV (T := T) 3 a1) fun a1 => obind (argV (T := T) 3 a2) fun b2 => spec_l1In n x0 a1 b2)
def spec_l1In_ent (n : Nat) : Ent T := ⟨174, 11, [], Bool, spec_l1In_D n, spec_l1In_enc⟩
def spec_l1Name_D (n : Nat) (r0 : List (A T)) : Option Bool := ocons r0 fun a0 r1 => onil r1 (obind (argV (T := T) 9 a0) fun s0 => spec_l1Name n s0)
def spec_l1Name_ent (n : Nat) : Ent T := ⟨175, 12, [], Bool, spec_l1Name_D n, spec_l1Name_enc⟩
def spec_BookOk_D (n : Nat) (r0 : List (A T)) : Option Bool := ocons r0 fun a0 r1 => onil r1 (obind (argV (T := T) 31 a0) fun b0 => spec_BookOk n b0)
def spec_BookOk_ent (n : Nat) : Ent T := ⟨85, 13, [], Bool, spec_BookOk_D n, spec_BookOk_enc⟩
def spec_l9Has_D (n : Nat) (r0 : List (A T)) : Option Bool := ocons r0 fun a0 r1 => ocons r1 fun a1 r2 => onil r2 (obind (argV (T := T) 23 a0) fun list0 => obind (argV (T := T) 3 a1) fun x1 => spec_l9Has n list0 x1)
def spec_l9Has_ent (n : Nat) : Ent T := ⟨86, 14, [], Bool, spec_l9Has_D n, spec_l9Has_enc⟩
def spec_TitleOf_D (n : Nat) (r0 : List (A T)) : Option (ByteArray × Bool) := ocons r0 fun a0 r1 => ocons r1 fun a1 r2 => onil r2 (obind (argV (T := T) 31 a0) fun b0 => obind (argV (T := T) 3 a1) fun id1 => spec_TitleOf n b0 id1)
def spec_TitleOf_ent (n : Nat) : Ent T := ⟨15, 15, [], ByteArray × Bool, spec_TitleOf_D n, spec_TitleOf_enc⟩
def impl_in_D (n : Nat) (r0 : List (A T)) : Option Bool := ocons r0 fun a0 r1 => ocons r1 fun a1 r2 => ocons r2 fun a2 r3 => onil r3 (obind (argV (T := T) 3 a0) fun n0 => obind (argV (T := T) 3 a1) fun least1 => obind (argV (T := T) 3 a2) fun most2 => impl_in n n0 least1 most2)
def impl_in_ent (n : Nat) : Ent T := ⟨101, 16, [], Bool, impl_in_D n, impl_in_enc⟩
def impl_idRight_D (n : Nat) (r0 : List (A T)) : Option Bool := ocons r0 fun a0 r1 => onil r1 (obind (argV (T := T) 3 a0) fun n0 => impl_idRight n n0)
def impl_idRight_ent (n : Nat) : Ent T := ⟨102, 17, [], Bool, impl_idRight_D n, impl_idRight_enc⟩
def impl_nameOk_D (n : Nat) (r0 : List (A T)) : Option Bool := ocons r0 fun a0 r1 => onil r1 (obind (argV (T := T) 9 a0) fun s0 => impl_nameOk n s0)
def impl_nameOk_ent (n : Nat) : Ent T := ⟨115, 18, [], Bool, impl_nameOk_D n, impl_nameOk_enc⟩
def impl_emptyOrName_D (n : Nat) (r0 : List (A T)) : Option Bool := ocons r0 fun a0 r1 => onil r1 (obind (argV (T := T) 9 a0) fun s0 => impl_emptyOrName n s0)
def impl_emptyOrName_ent (n : Nat) : Ent T := ⟨116, 19, [], Bool, impl_emptyOrName_D n, impl_emptyOrName_enc⟩
def impl_BookOk_1_D (n : Nat) (r0 : List (A T)) : Option Bool := ocons r0 fun a0 r1 => onil r1 (obind (argV (T := T) 9 a0) fun s0 => impl_BookOk_1 n s0)
def impl_BookOk_1_ent (n : Nat) : Ent T := ⟨130, 20, [], Bool, impl_BookOk_1_D n, impl_BookOk_1_enc⟩
def slices_IndexFunc_string_string__impl_BookOk_1_D (n : Nat) (ar : List (A T)) : Option Int := match ar with
  | [a0, .fn _ []] => obind (argV (T := T) 77 a0) fun s0 => slices_IndexFunc_string_string__impl_BookOk_1 n s0
  | _ => none
def slices_IndexFunc_string_string__impl_BookOk_1_ent (n : Nat) : Ent T := ⟨189, 21, [130], Int, slices_IndexFunc_string_string__impl_BookOk_1_D n, slices_IndexFunc_string_string__impl_BookOk_1_enc⟩
def slices_ContainsFunc_string_string__impl_BookOk_1_D (n : Nat) (ar : List (A T)) : Option Bool := match ar with
  | [a0, .fn _ []] => obind (argV (T := T) 77 a0) fun s0 => slices_ContainsFunc_string_string__impl_BookOk_1 n s0
  | _ => none
def slices_ContainsFunc_string_string__impl_BookOk_1_ent (n : Nat) : Ent T := ⟨121, 22, [130], Bool, slices_ContainsFunc_string_string__impl_BookOk_1_D n, slices_ContainsFunc_string_string__impl_BookOk_1_enc⟩
def impl_BookOk_D (n : Nat) (r0 : List (A T)) : Option Bool := ocons r0 fun a0 r1 => onil r1 (obind (argV (T := T) 31 a0) fun b0 => impl_BookOk n b0)
def impl_BookOk_ent (n : Nat) : Ent T := ⟨44, 23, [], Bool, impl_BookOk_D n, impl_BookOk_enc⟩
def impl_Book_at_1_D (n : Nat) (r0 : List (A T)) : Option Bool := ocons r0 fun a0 r1 => ocons r1 fun a1 r2 => onil r2 (obind (argV (T := T) 79 a0) fun x0 => obind (argP (T := T) 3 a1) fun a1 => impl_Book_at_1 n x0 a1)
def impl_Book_at_1_ent (n : Nat) : Ent T := ⟨178, 24, [], Bool, impl_Book_at_1_D n, impl_Book_at_1_enc⟩
def slices_IndexFunc_impl_Bill_impl_Bill__impl_Book_at_1_D (n : Nat) (ar : List (A T)) : Option Int := match ar with
  | [a0, .fn _ [k1_0]] => obind (argV (T := T) 29 a0) fun s0 => obind (argP (T := T) 3 k1_0) fun f1c0 => slices_IndexFunc_impl_Bill_impl_Bill__impl_Book_at_1 n s0 f1c0
  | _ => none
def slices_IndexFunc_impl_Bill_impl_Bill__impl_Book_at_1_ent (n : Nat) : Ent T := ⟨177, 25, [178], Int, slices_IndexFunc_impl_Bill_impl_Bill__impl_Book_at_1_D n, slices_IndexFunc_impl_Bill_impl_Bill__impl_Book_at_1_enc⟩
def impl_Book_at_D (n : Nat) (r0 : List (A T)) : Option Int := ocons r0 fun a0 r1 => ocons r1 fun a1 r2 => onil r2 (obind (argV (T := T) 31 a0) fun b0 => obind (argV (T := T) 3 a1) fun id1 => impl_Book_at n b0 id1)
def impl_Book_at_ent (n : Nat) : Ent T := ⟨89, 26, [], Int, impl_Book_at_D n, impl_Book_at_enc⟩
def slices_Index_int_int_D (n : Nat) (r0 : List (A T)) : Option Int := ocons r0 fun a0 r1 => ocons r1 fun a1 r2 => onil r2 (obind (argV (T := T) 23 a0) fun s0 => obind (argV (T := T) 3 a1) fun v1 => slices_Index_int_int n s0 v1)
def slices_Index_int_int_ent (n : Nat) : Ent T := ⟨179, 27, [], Int, slices_Index_int_int_D n, slices_Index_int_int_enc⟩
def slices_Contains_int_int_D (n : Nat) (r0 : List (A T)) : Option Bool := ocons r0 fun a0 r1 => ocons r1 fun a1 r2 => onil r2 (obind (argV (T := T) 23 a0) fun s0 => obind (argV (T := T) 3 a1) fun v1 => slices_Contains_int_int n s0 v1)
def slices_Contains_int_int_ent (n : Nat) : Ent T := ⟨90, 28, [], Bool, slices_Contains_int_int_D n, slices_Contains_int_int_enc⟩
def impl_TitleOf_D (n : Nat) (r0 : List (A T)) : Option (ByteArray × Bool) := ocons r0 fun a0 r1 => ocons r1 fun a1 r2 => onil r2 (obind (argV (T := T) 31 a0) fun b0 => obind (argV (T := T) 3 a1) fun id1 => impl_TitleOf n b0 id1)
def impl_TitleOf_ent (n : Nat) : Ent T := ⟨17, 29, [], ByteArray × Bool, impl_TitleOf_D n, impl_TitleOf_enc⟩
def laws_eqStringS_D (n : Nat) (r0 : List (A T)) : Option Bool := ocons r0 fun a0 r1 => ocons r1 fun a1 r2 => onil r2 (obind (argV (T := T) 77 a0) fun a0 => obind (argV (T := T) 77 a1) fun b1 => laws_eqStringS n a0 b1)
def laws_eqStringS_ent (n : Nat) : Ent T := ⟨216, 30, [], Bool, laws_eqStringS_D n, laws_eqStringS_enc⟩
def laws_eqBill_D (n : Nat) (r0 : List (A T)) : Option Bool := ocons r0 fun a0 r1 => ocons r1 fun a1 r2 => onil r2 (obind (argV (T := T) 79 a0) fun a0 => obind (argV (T := T) 79 a1) fun b1 => laws_eqBill n a0 b1)
def laws_eqBill_ent (n : Nat) : Ent T := ⟨180, 31, [], Bool, laws_eqBill_D n, laws_eqBill_enc⟩
def laws_eqBillS_D (n : Nat) (r0 : List (A T)) : Option Bool := ocons r0 fun a0 r1 => ocons r1 fun a1 r2 => onil r2 (obind (argV (T := T) 29 a0) fun a0 => obind (argV (T := T) 29 a1) fun b1 => laws_eqBillS n a0 b1)
def laws_eqBillS_ent (n : Nat) : Ent T := ⟨91, 32, [], Bool, laws_eqBillS_D n, laws_eqBillS_enc⟩
def laws_eqIntS_D (n : Nat) (r0 : List (A T)) : Option Bool := ocons r0 fun a0 r1 => ocons r1 fun a1 r2 => onil r2 (obind (argV (T := T) 23 a0) fun a0 => obind (argV (T := T) 23 a1) fun b1 => laws_eqIntS n a0 b1)
def laws_eqIntS_ent (n : Nat) : Ent T := ⟨31, 33, [], Bool, laws_eqIntS_D n, laws_eqIntS_enc⟩
def laws_eqBook_D (n : Nat) (r0 : List (A T)) : Option Bool := ocons r0 fun a0 r1 => ocons r1 fun a1 r2 => onil r2 (obind (argV (T := T) 31 a0) fun a0 => obind (argV (T := T) 31 a1) fun b1 => laws_eqBook n a0 b1)
def laws_eqBook_ent (n : Nat) : Ent T := ⟨18, 34, [], Bool, laws_eqBook_D n, laws_eqBook_enc⟩
def laws_FnExactTitleOf_D (n : Nat) (r0 : List (A T)) : Option Bool := ocons r0 fun a0 r1 => ocons r1 fun a1 r2 => onil r2 (obind (argV (T := T) 25 a0) fun aB0 => obind (argV (T := T) 3 a1) fun aId1 => laws_FnExactTitleOf n aB0 aId1)
def laws_FnExactTitleOf_ent (n : Nat) : Ent T := ⟨3, 35, [], Bool, laws_FnExactTitleOf_D n, laws_FnExactTitleOf_enc⟩
def ents (n : Nat) : List (Ent T) := [laws_szStringS_ent n, laws_szBill_ent n, laws_szBillS_ent n, laws_szIntS_ent n, laws_szBook_ent n, laws_toStringS_ent n, laws_toBill_ent n, laws_toBillS_ent n, laws_toIntS_ent n, laws_toBook_ent n, spec_l14Find_ent n, spec_l1In_ent n, spec_l1Name_ent n, spec_BookOk_ent n, spec_l9Has_ent n, spec_TitleOf_ent n, impl_in_ent n, impl_idRight_ent n, impl_nameOk_ent n, impl_emptyOrName_ent n, impl_BookOk_1_ent n, slices_IndexFunc_string_string__impl_BookOk_1_ent n, slices_ContainsFunc_string_string__impl_BookOk_1_ent n, impl_BookOk_ent n, impl_Book_at_1_ent n, slices_IndexFunc_impl_Bill_impl_Bill__impl_Book_at_1_ent n, impl_Book_at_ent n, slices_Index_int_int_ent n, slices_Contains_int_int_ent n, impl_TitleOf_ent n, laws_eqStringS_ent n, laws_eqBill_ent n, laws_eqBillS_ent n, laws_eqIntS_ent n, laws_eqBook_ent n, laws_FnExactTitleOf_ent n]
abbrev Phi (n i : Nat) {R : Type} (f : Nat) (ar : List (A T)) (K : Res T → Option R) : Option R := PhiE (ents n) i f ar K
theorem mixed : Try.prog.follows .mixedOrders = true := by kernel_rfl
noncomputable def laws_szStringS_code : Code := match Try.f214.body with | some c => c | none => .skip
def laws_szStringS_5_sv : List Sv := [.one (.arr 9), .one (.int .i64), .one (.int .i64)]
def laws_szStringS_5_so : List So := []
def laws_szStringS_5_emb (c : List ByteArray) (x : Int × Int) : EVs T laws_szStringS_5_sv × EOs T laws_szStringS_5_so := ((c, x.1, x.2, ()), ())
def laws_szStringS_5_prj (y : EVs T laws_szStringS_5_sv × EOs T laws_szStringS_5_so) : List ByteArray × (Int × Int) := ((y.1.1), (y.1.2.1, y.1.2.2.1))
def laws_szStringS_5_b (n : Nat) {R : Type} (K : Ex → Sm.St T → Option R) (c : List ByteArray) (x : Int × Int) (J : (Int × Int) → Option R) : Option R :=
  laws_szStringS_L5 n (fun (y0 : Int) => K (.exit 0) (stOf (T := T) [1] [] [.one (.int .i64)] [] (y0, ()) ())) (fun (y0 : Int) => K .ret (stOf (T := T) [4] [] [.one (.int .i64)] [] (y0, ()) ())) (fun z0 z1 => J (z0, z1)) c x.1 x.2
def laws_szStringS_5_sp (n : Nat) : LSpec T := mkSpec T ⟨[], [0, 1, 5], []⟩ laws_szStringS_5_sv laws_szStringS_5_so (List ByteArray) (Int × Int) laws_szStringS_5_emb laws_szStringS_5_prj (laws_szStringS_5_b n)
noncomputable def laws_szStringS_5_c : Code := ((loopCodes laws_szStringS_code)[0]?).getD .skip
def laws_szStringS_ann : Ann := fun id => bif Nat.beq id 3000005 then some ⟨[], [1], []⟩ else bif Nat.beq id 2000005 then some ⟨[], [4], []⟩ else none
def laws_szStringS_Ls (n : Nat) : Nat → Option (LSpec T) := fun id => bif Nat.beq id 5 then some (laws_szStringS_5_sp n) else none
theorem laws_szStringS_5_le (n : Nat) : LoopEq (T := T) (Phi n 0) (laws_szStringS_Ls n) laws_szStringS_ann n laws_szStringS_5_c (laws_szStringS_5_sp n) := ⟨mkSpec_dec (fun y => rfl), fun c x => by kernel_rfl, fun K J c x => by kernel_rfl⟩
theorem laws_szStringS_tie (n : Nat) (a0 : List ByteArray) (left1 : Int) : evF (T := T) (Phi n 0) (laws_szStringS_Ls n) laws_szStringS_ann n Try.f214 (sg 214) [vA T 77 a0, vA T 3 left1] laws_szStringS_dec = laws_szStringS n a0 left1 := by kernel_rfl
theorem laws_szStringS_lo (n : Nat) : LoopsOk (T := T) (Phi n 0) (laws_szStringS_Ls n) laws_szStringS_ann n laws_szStringS_code := loopsOk_all (cs := [laws_szStringS_5_c]) (by kernel_rfl) ⟨⟨_, by kernel_rfl, laws_szStringS_5_le n⟩, trivial⟩
theorem laws_szStringS_ok (n : Nat) : EntOk Try.prog (ents n) (laws_szStringS_ent n) := by
  intro hs ar y hg h
  replace h : laws_szStringS_D n ar = some y := h
  unfold laws_szStringS_D at h
  replace h := ocons_some h
  obtain ⟨a0, r0, rfl, h⟩ := h
  replace h := ocons_some h
  obtain ⟨a1, r1, rfl, h⟩ := h
  replace h := onil_some h
  obtain ⟨rfl, h⟩ := h
  obtain ⟨a0, qh0, h⟩ := obind_some h
  obtain ⟨left1, qh1, h⟩ := obind_some h
  rw [argV_eq ok qh0, argV_eq ok qh1]
  exact call_of (phiE_nat _ _) hs ok mixed Try.func214 (c := laws_szStringS_code) (by kernel_rfl) (laws_szStringS_lo n) (by kernel_rfl) (by kernel_rfl) (by kernel_rfl) laws_szStringS_de ((laws_szStringS_tie n a0 left1).trans h)
noncomputable def laws_szBill_code : Code := match Try.f173.body with | some c => c | none => .skip
def laws_szBill_ann : Ann := fun id => none
def laws_szBill_Ls (n : Nat) : Nat → Option (LSpec T) := fun id => none
theorem laws_szBill_tie (n : Nat) (a0 : SBill) (left1 : Int) : evF (T := T) (Phi n 1) (laws_szBill_Ls n) laws_szBill_ann n Try.f173 (sg 173) [vA T 215 a0, vA T 3 left1] laws_szBill_dec = laws_szBill n a0 left1 := by kernel_rfl
theorem laws_szBill_lo (n : Nat) : LoopsOk (T := T) (Phi n 1) (laws_szBill_Ls n) laws_szBill_ann n laws_szBill_code := loopsOk_all (cs := []) (by kernel_rfl) trivial
theorem laws_szBill_ok (n : Nat) : EntOk Try.prog (ents n) (laws_szBill_ent n) := by
  intro hs ar y hg h
  replace h : laws_szBill_D n ar = some y := h
  unfold laws_szBill_D at h
  replace h := ocons_some h
  obtain ⟨a0, r0, rfl, h⟩ := h
  replace h := ocons_some h
  obtain ⟨a1, r1, rfl, h⟩ := h
  replace h := onil_some h
  obtain ⟨rfl, h⟩ := h
  obtain ⟨a0, qh0, h⟩ := obind_some h
  obtain ⟨left1, qh1, h⟩ := obind_some h
  rw [argV_eq ok qh0, argV_eq ok qh1]
  exact call_of (phiE_nat _ _) hs ok mixed Try.func173 (c := laws_szBill_code) (by kernel_rfl) (laws_szBill_lo n) (by kernel_rfl) (by kernel_rfl) (by kernel_rfl) laws_szBill_de ((laws_szBill_tie n a0 left1).trans h)
noncomputable def laws_szBillS_code : Code := match Try.f82.body with | some c => c | none => .skip
def laws_szBillS_5_sv : List Sv := [.one (.arr 215), .one (.int .i64), .one (.int .i64)]
def laws_szBillS_5_so : List So := []
def laws_szBillS_5_emb (c : List SBill) (x : Int × Int) : EVs T laws_szBillS_5_sv × EOs T laws_szBillS_5_so := ((c, x.1, x.2, ()), ())
def laws_szBillS_5_prj (y : EVs T laws_szBillS_5_sv × EOs T laws_szBillS_5_so) : List SBill × (Int × Int) := ((y.1.1), (y.1.2.1, y.1.2.2.1))
def laws_szBillS_5_b (n : Nat) {R : Type} (K : Ex → Sm.St T → Option R) (c : List SBill) (x : Int × Int) (J : (Int × Int) → Option R) : Option R :=
  laws_szBillS_L5 n (fun (y0 : Int) => K (.exit 0) (stOf (T := T) [1] [] [.one (.int .i64)] [] (y0, ()) ())) (fun (y0 : Int) => K .ret (stOf (T := T) [4] [] [.one (.int .i64)] [] (y0, ()) ())) (fun z0 z1 => J (z0, z1)) c x.1 x.2
def laws_szBillS_5_sp (n : Nat) : LSpec T := mkSpec T ⟨[], [0, 1, 5], []⟩ laws_szBillS_5_sv laws_szBillS_5_so (List SBill) (Int × Int) laws_szBillS_5_emb laws_szBillS_5_prj (laws_szBillS_5_b n)
noncomputable def laws_szBillS_5_c : Code := ((loopCodes laws_szBillS_code)[0]?).getD .skip
def laws_szBillS_ann : Ann := fun id => bif Nat.beq id 3000005 then some ⟨[], [1], []⟩ else bif Nat.beq id 2000005 then some ⟨[], [4], []⟩ else none
def laws_szBillS_Ls (n : Nat) : Nat → Option (LSpec T) := fun id => bif Nat.beq id 5 then some (laws_szBillS_5_sp n) else none
theorem laws_szBillS_5_le (n : Nat) : LoopEq (T := T) (Phi n 2) (laws_szBillS_Ls n) laws_szBillS_ann n laws_szBillS_5_c (laws_szBillS_5_sp n) := ⟨mkSpec_dec (fun y => rfl), fun c x => by kernel_rfl, fun K J c x => by kernel_rfl⟩
theorem laws_szBillS_tie (n : Nat) (a0 : List SBill) (left1 : Int) : evF (T := T) (Phi n 2) (laws_szBillS_Ls n) laws_szBillS_ann n Try.f82 (sg 82) [vA T 22 a0, vA T 3 left1] laws_szBillS_dec = laws_szBillS n a0 left1 := by kernel_rfl
theorem laws_szBillS_lo (n : Nat) : LoopsOk (T := T) (Phi n 2) (laws_szBillS_Ls n) laws_szBillS_ann n laws_szBillS_code := loopsOk_all (cs := [laws_szBillS_5_c]) (by kernel_rfl) ⟨⟨_, by kernel_rfl, laws_szBillS_5_le n⟩, trivial⟩
theorem laws_szBillS_ok (n : Nat) : EntOk Try.prog (ents n) (laws_szBillS_ent n) := by
  intro hs ar y hg h
  replace h : laws_szBillS_D n ar = some y := h
  unfold laws_szBillS_D at h
  replace h := ocons_some h
  obtain ⟨a0, r0, rfl, h⟩ := h
  replace h := ocons_some h
  obtain ⟨a1, r1, rfl, h⟩ := h
  replace h := onil_some h
  obtain ⟨rfl, h⟩ := h
  obtain ⟨a0, qh0, h⟩ := obind_some h
  obtain ⟨left1, qh1, h⟩ := obind_some h
  rw [argV_eq ok qh0, argV_eq ok qh1]
  exact call_of (phiE_nat _ _) hs ok mixed Try.func82 (c := laws_szBillS_code) (by kernel_rfl) (laws_szBillS_lo n) (by kernel_rfl) (by kernel_rfl) (by kernel_rfl) laws_szBillS_de ((laws_szBillS_tie n a0 left1).trans h)
noncomputable def laws_szIntS_code : Code := match Try.f83.body with | some c => c | none => .skip
def laws_szIntS_ann : Ann := fun id => none
def laws_szIntS_Ls (n : Nat) : Nat → Option (LSpec T) := fun id => none
theorem laws_szIntS_tie (n : Nat) (a0 : List Int) (left1 : Int) : evF (T := T) (Phi n 3) (laws_szIntS_Ls n) laws_szIntS_ann n Try.f83 (sg 83) [vA T 23 a0, vA T 3 left1] laws_szIntS_dec = laws_szIntS n a0 left1 := by kernel_rfl
theorem laws_szIntS_lo (n : Nat) : LoopsOk (T := T) (Phi n 3) (laws_szIntS_Ls n) laws_szIntS_ann n laws_szIntS_code := loopsOk_all (cs := []) (by kernel_rfl) trivial
theorem laws_szIntS_ok (n : Nat) : EntOk Try.prog (ents n) (laws_szIntS_ent n) := by
  intro hs ar y hg h
  replace h : laws_szIntS_D n ar = some y := h
  unfold laws_szIntS_D at h
  replace h := ocons_some h
  obtain ⟨a0, r0, rfl, h⟩ := h
  replace h := ocons_some h
  obtain ⟨a1, r1, rfl, h⟩ := h
  replace h := onil_some h
  obtain ⟨rfl, h⟩ := h
  obtain ⟨a0, qh0, h⟩ := obind_some h
  obtain ⟨left1, qh1, h⟩ := obind_some h
  rw [argV_eq ok qh0, argV_eq ok qh1]
  exact call_of (phiE_nat _ _) hs ok mixed Try.func83 (c := laws_szIntS_code) (by kernel_rfl) (laws_szIntS_lo n) (by kernel_rfl) (by kernel_rfl) (by kernel_rfl) laws_szIntS_de ((laws_szIntS_tie n a0 left1).trans h)
noncomputable def laws_szBook_code : Code := match Try.f14.body with | some c => c | none => .skip
def laws_szBook_ann : Ann := fun id => none
def laws_szBook_Ls (n : Nat) : Nat → Option (LSpec T) := fun id => none
theorem laws_szBook_tie (n : Nat) (a0 : SBook) (left1 : Int) : evF (T := T) (Phi n 4) (laws_szBook_Ls n) laws_szBook_ann n Try.f14 (sg 14) [vA T 25 a0, vA T 3 left1] laws_szBook_dec = laws_szBook n a0 left1 := by kernel_rfl
theorem laws_szBook_lo (n : Nat) : LoopsOk (T := T) (Phi n 4) (laws_szBook_Ls n) laws_szBook_ann n laws_szBook_code := loopsOk_all (cs := []) (by kernel_rfl) trivial
theorem laws_szBook_ok (n : Nat) : EntOk Try.prog (ents n) (laws_szBook_ent n) := by
  intro hs ar y hg h
  replace h : laws_szBook_D n ar = some y := h
  unfold laws_szBook_D at h
  replace h := ocons_some h
  obtain ⟨a0, r0, rfl, h⟩ := h
  replace h := ocons_some h
  obtain ⟨a1, r1, rfl, h⟩ := h
  replace h := onil_some h
  obtain ⟨rfl, h⟩ := h
  obtain ⟨a0, qh0, h⟩ := obind_some h
  obtain ⟨left1, qh1, h⟩ := obind_some h
  rw [argV_eq ok qh0, argV_eq ok qh1]
  exact call_of (phiE_nat _ _) hs ok mixed Try.func14 (c := laws_szBook_code) (by kernel_rfl) (laws_szBook_lo n) (by kernel_rfl) (by kernel_rfl) (by kernel_rfl) laws_szBook_de ((laws_szBook_tie n a0 left1).trans h)
noncomputable def laws_toStringS_code : Code := match Try.f215.body with | some c => c | none => .skip
def laws_toStringS_3_sv : List Sv := [.one (.arr 9), .one (.own 3000000 9 false), .one (.int .i64)]
def laws_toStringS_3_so : List So := [.arr 9 false]
def laws_toStringS_3_emb (c : List ByteArray) (x : Int × List ByteArray) : EVs T laws_toStringS_3_sv × EOs T laws_toStringS_3_so := ((c, (), x.1, ()), (x.2, ()))
def laws_toStringS_3_prj (y : EVs T laws_toStringS_3_sv × EOs T laws_toStringS_3_so) : List ByteArray × (Int × List ByteArray) := ((y.1.1), (y.1.2.2.1, y.2.1))
def laws_toStringS_3_b (n : Nat) {R : Type} (K : Ex → Sm.St T → Option R) (c : List ByteArray) (x : Int × List ByteArray) (J : (Int × List ByteArray) → Option R) : Option R :=
  laws_toStringS_L3 n (fun (y0 : List ByteArray) => K (.exit 0) (stOf (T := T) [3] [3000000] [.one (.own 3000000 9 false)] [.arr 9 false] ((), ()) (y0, ()))) (fun z0 z1 => J (z0, z1)) c x.1 x.2
def laws_toStringS_3_sp (n : Nat) : LSpec T := mkSpec T ⟨[((.reg 3), 3000000, 9)], [0, 3, 4], [3000000]⟩ laws_toStringS_3_sv laws_toStringS_3_so (List ByteArray) (Int × List ByteArray) laws_toStringS_3_emb laws_toStringS_3_prj (laws_toStringS_3_b n)
noncomputable def laws_toStringS_3_c : Code := ((loopCodes laws_toStringS_code)[0]?).getD .skip
def laws_toStringS_ann : Ann := fun id => bif Nat.beq id 3000003 then some ⟨[((.reg 3), 3000000, 9)], [3], [3000000]⟩ else none
def laws_toStringS_Ls (n : Nat) : Nat → Option (LSpec T) := fun id => bif Nat.beq id 3 then some (laws_toStringS_3_sp n) else none
theorem laws_toStringS_3_le (n : Nat) : LoopEq (T := T) (Phi n 5) (laws_toStringS_Ls n) laws_toStringS_ann n laws_toStringS_3_c (laws_toStringS_3_sp n) := ⟨mkSpec_dec (fun y => rfl), fun c x => by kernel_rfl, fun K J c x => by kernel_rfl⟩
theorem laws_toStringS_tie (n : Nat) (a0 : List ByteArray) : evF (T := T) (Phi n 5) (laws_toStringS_Ls n) laws_toStringS_ann n Try.f215 (sg 215) [vA T 77 a0] laws_toStringS_dec = laws_toStringS n a0 := by kernel_rfl
theorem laws_toStringS_lo (n : Nat) : LoopsOk (T := T) (Phi n 5) (laws_toStringS_Ls n) laws_toStringS_ann n laws_toStringS_code := loopsOk_all (cs := [laws_toStringS_3_c]) (by kernel_rfl) ⟨⟨_, by kernel_rfl, laws_toStringS_3_le n⟩, trivial⟩
theorem laws_toStringS_ok (n : Nat) : EntOk Try.prog (ents n) (laws_toStringS_ent n) := by
  intro hs ar y hg h
  replace h : laws_toStringS_D n ar = some y := h
  unfold laws_toStringS_D at h
  replace h := ocons_some h
  obtain ⟨a0, r0, rfl, h⟩ := h
  replace h := onil_some h
  obtain ⟨rfl, h⟩ := h
  obtain ⟨a0, qh0, h⟩ := obind_some h
  rw [argV_eq ok qh0]
  exact call_of (phiE_nat _ _) hs ok mixed Try.func215 (c := laws_toStringS_code) (by kernel_rfl) (laws_toStringS_lo n) (by kernel_rfl) (by kernel_rfl) (by kernel_rfl) laws_toStringS_de ((laws_toStringS_tie n a0).trans h)
noncomputable def laws_toBill_code : Code := match Try.f176.body with | some c => c | none => .skip
def laws_toBill_ann : Ann := fun id => none
def laws_toBill_Ls (n : Nat) : Nat → Option (LSpec T) := fun id => none
theorem laws_toBill_tie (n : Nat) (a0 : SBill) : evF (T := T) (Phi n 6) (laws_toBill_Ls n) laws_toBill_ann n Try.f176 (sg 176) [vA T 215 a0] laws_toBill_dec = laws_toBill n a0 := by kernel_rfl
theorem laws_toBill_lo (n : Nat) : LoopsOk (T := T) (Phi n 6) (laws_toBill_Ls n) laws_toBill_ann n laws_toBill_code := loopsOk_all (cs := []) (by kernel_rfl) trivial
theorem laws_toBill_ok (n : Nat) : EntOk Try.prog (ents n) (laws_toBill_ent n) := by
  intro hs ar y hg h
  replace h : laws_toBill_D n ar = some y := h
  unfold laws_toBill_D at h
  replace h := ocons_some h
  obtain ⟨a0, r0, rfl, h⟩ := h
  replace h := onil_some h
  obtain ⟨rfl, h⟩ := h
  obtain ⟨a0, qh0, h⟩ := obind_some h
  rw [argV_eq ok qh0]
  exact call_of (phiE_nat _ _) hs ok mixed Try.func176 (c := laws_toBill_code) (by kernel_rfl) (laws_toBill_lo n) (by kernel_rfl) (by kernel_rfl) (by kernel_rfl) laws_toBill_de ((laws_toBill_tie n a0).trans h)
noncomputable def laws_toBillS_code : Code := match Try.f87.body with | some c => c | none => .skip
def laws_toBillS_3_sv : List Sv := [.one (.arr 215), .one (.own 3000000 79 false), .one (.int .i64)]
def laws_toBillS_3_so : List So := [.arr 79 false]
def laws_toBillS_3_emb (c : List SBill) (x : Int × List SBill) : EVs T laws_toBillS_3_sv × EOs T laws_toBillS_3_so := ((c, (), x.1, ()), (x.2, ()))
def laws_toBillS_3_prj (y : EVs T laws_toBillS_3_sv × EOs T laws_toBillS_3_so) : List SBill × (Int × List SBill) := ((y.1.1), (y.1.2.2.1, y.2.1))
def laws_toBillS_3_b (n : Nat) {R : Type} (K : Ex → Sm.St T → Option R) (c : List SBill) (x : Int × List SBill) (J : (Int × List SBill) → Option R) : Option R :=
  laws_toBillS_L3 n (fun (y0 : List SBill) => K (.exit 0) (stOf (T := T) [3] [3000000] [.one (.own 3000000 79 false)] [.arr 79 false] ((), ()) (y0, ()))) (fun z0 z1 => J (z0, z1)) c x.1 x.2
def laws_toBillS_3_sp (n : Nat) : LSpec T := mkSpec T ⟨[((.reg 3), 3000000, 79)], [0, 3, 4], [3000000]⟩ laws_toBillS_3_sv laws_toBillS_3_so (List SBill) (Int × List SBill) laws_toBillS_3_emb laws_toBillS_3_prj (laws_toBillS_3_b n)
noncomputable def laws_toBillS_3_c : Code := ((loopCodes laws_toBillS_code)[0]?).getD .skip
def laws_toBillS_ann : Ann := fun id => bif Nat.beq id 3000003 then some ⟨[((.reg 3), 3000000, 79)], [3], [3000000]⟩ else none
def laws_toBillS_Ls (n : Nat) : Nat → Option (LSpec T) := fun id => bif Nat.beq id 3 then some (laws_toBillS_3_sp n) else none
theorem laws_toBillS_3_le (n : Nat) : LoopEq (T := T) (Phi n 7) (laws_toBillS_Ls n) laws_toBillS_ann n laws_toBillS_3_c (laws_toBillS_3_sp n) := ⟨mkSpec_dec (fun y => rfl), fun c x => by kernel_rfl, fun K J c x => by kernel_rfl⟩
theorem laws_toBillS_tie (n : Nat) (a0 : List SBill) : evF (T := T) (Phi n 7) (laws_toBillS_Ls n) laws_toBillS_ann n Try.f87 (sg 87) [vA T 22 a0] laws_toBillS_dec = laws_toBillS n a0 := by kernel_rfl
theorem laws_toBillS_lo (n : Nat) : LoopsOk (T := T) (Phi n 7) (laws_toBillS_Ls n) laws_toBillS_ann n laws_toBillS_code := loopsOk_all (cs := [laws_toBillS_3_c]) (by kernel_rfl) ⟨⟨_, by kernel_rfl, laws_toBillS_3_le n⟩, trivial⟩
theorem laws_toBillS_ok (n : Nat) : EntOk Try.prog (ents n) (laws_toBillS_ent n) := by
  intro hs ar y hg h
  replace h : laws_toBillS_D n ar = some y := h
  unfold laws_toBillS_D at h
  replace h := ocons_some h
  obtain ⟨a0, r0, rfl, h⟩ := h
  replace h := onil_some h
  obtain ⟨rfl, h⟩ := h
  obtain ⟨a0, qh0, h⟩ := obind_some h
  rw [argV_eq ok qh0]
  exact call_of (phiE_nat _ _) hs ok mixed Try.func87 (c := laws_toBillS_code) (by kernel_rfl) (laws_toBillS_lo n) (by kernel_rfl) (by kernel_rfl) (by kernel_rfl) laws_toBillS_de ((laws_toBillS_tie n a0).trans h)
noncomputable def laws_toIntS_code : Code := match Try.f88.body with | some c => c | none => .skip
def laws_toIntS_3_sv : List Sv := [.one (.arr 3), .one (.own 3000000 3 false), .one (.int .i64)]
def laws_toIntS_3_so : List So := [.arr 3 false]
def laws_toIntS_3_emb (c : List Int) (x : Int × List Int) : EVs T laws_toIntS_3_sv × EOs T laws_toIntS_3_so := ((c, (), x.1, ()), (x.2, ()))
def laws_toIntS_3_prj (y : EVs T laws_toIntS_3_sv × EOs T laws_toIntS_3_so) : List Int × (Int × List Int) := ((y.1.1), (y.1.2.2.1, y.2.1))
def laws_toIntS_3_b (n : Nat) {R : Type} (K : Ex → Sm.St T → Option R) (c : List Int) (x : Int × List Int) (J : (Int × List Int) → Option R) : Option R :=
  laws_toIntS_L3 n (fun (y0 : List Int) => K (.exit 0) (stOf (T := T) [3] [3000000] [.one (.own 3000000 3 false)] [.arr 3 false] ((), ()) (y0, ()))) (fun z0 z1 => J (z0, z1)) c x.1 x.2
def laws_toIntS_3_sp (n : Nat) : LSpec T := mkSpec T ⟨[((.reg 3), 3000000, 3)], [0, 3, 4], [3000000]⟩ laws_toIntS_3_sv laws_toIntS_3_so (List Int) (Int × List Int) laws_toIntS_3_emb laws_toIntS_3_prj (laws_toIntS_3_b n)
noncomputable def laws_toIntS_3_c : Code := ((loopCodes laws_toIntS_code)[0]?).getD .skip
def laws_toIntS_ann : Ann := fun id => bif Nat.beq id 3000003 then some ⟨[((.reg 3), 3000000, 3)], [3], [3000000]⟩ else none
def laws_toIntS_Ls (n : Nat) : Nat → Option (LSpec T) := fun id => bif Nat.beq id 3 then some (laws_toIntS_3_sp n) else none
theorem laws_toIntS_3_le (n : Nat) : LoopEq (T := T) (Phi n 8) (laws_toIntS_Ls n) laws_toIntS_ann n laws_toIntS_3_c (laws_toIntS_3_sp n) := ⟨mkSpec_dec (fun y => rfl), fun c x => by kernel_rfl, fun K J c x => by kernel_rfl⟩
theorem laws_toIntS_tie (n : Nat) (a0 : List Int) : evF (T := T) (Phi n 8) (laws_toIntS_Ls n) laws_toIntS_ann n Try.f88 (sg 88) [vA T 23 a0] laws_toIntS_dec = laws_toIntS n a0 := by kernel_rfl
theorem laws_toIntS_lo (n : Nat) : LoopsOk (T := T) (Phi n 8) (laws_toIntS_Ls n) laws_toIntS_ann n laws_toIntS_code := loopsOk_all (cs := [laws_toIntS_3_c]) (by kernel_rfl) ⟨⟨_, by kernel_rfl, laws_toIntS_3_le n⟩, trivial⟩
theorem laws_toIntS_ok (n : Nat) : EntOk Try.prog (ents n) (laws_toIntS_ent n) := by
  intro hs ar y hg h
  replace h : laws_toIntS_D n ar = some y := h
  unfold laws_toIntS_D at h
  replace h := ocons_some h
  obtain ⟨a0, r0, rfl, h⟩ := h
  replace h := onil_some h
  obtain ⟨rfl, h⟩ := h
  obtain ⟨a0, qh0, h⟩ := obind_some h
  rw [argV_eq ok qh0]
  exact call_of (phiE_nat _ _) hs ok mixed Try.func88 (c := laws_toIntS_code) (by kernel_rfl) (laws_toIntS_lo n) (by kernel_rfl) (by kernel_rfl) (by kernel_rfl) laws_toIntS_de ((laws_toIntS_tie n a0).trans h)
noncomputable def laws_toBook_code : Code := match Try.f16.body with | some c => c | none => .skip
def laws_toBook_ann : Ann := fun id => none
def laws_toBook_Ls (n : Nat) : Nat → Option (LSpec T) := fun id => none
theorem laws_toBook_tie (n : Nat) (a0 : SBook) : evF (T := T) (Phi n 9) (laws_toBook_Ls n) laws_toBook_ann n Try.f16 (sg 16) [vA T 25 a0] laws_toBook_dec = laws_toBook n a0 := by kernel_rfl
theorem laws_toBook_lo (n : Nat) : LoopsOk (T := T) (Phi n 9) (laws_toBook_Ls n) laws_toBook_ann n laws_toBook_code := loopsOk_all (cs := []) (by kernel_rfl) trivial
theorem laws_toBook_ok (n : Nat) : EntOk Try.prog (ents n) (laws_toBook_ent n) := by
  intro hs ar y hg h
  replace h : laws_toBook_D n ar = some y := h
  unfold laws_toBook_D at h
  replace h := ocons_some h
  obtain ⟨a0, r0, rfl, h⟩ := h
  replace h := onil_some h
  obtain ⟨rfl, h⟩ := h
  obtain ⟨a0, qh0, h⟩ := obind_some h
  rw [argV_eq ok qh0]
  exact call_of (phiE_nat _ _) hs ok mixed Try.func16 (c := laws_toBook_code) (by kernel_rfl) (laws_toBook_lo n) (by kernel_rfl) (by kernel_rfl) (by kernel_rfl) laws_toBook_de ((laws_toBook_tie n a0).trans h)
noncomputable def spec_l14Find_code : Code := match Try.f84.body with | some c => c | none => .skip
def spec_l14Find_2_sv : List Sv := [.one (.int .i64), .one (.ptr 16 0 0), .one (.int .i64)]
def spec_l14Find_2_so : List So := [.var [.arr 79, .arr 3]]
def spec_l14Find_2_emb (c : Int × SBook) (x : Int) : EVs T spec_l14Find_2_sv × EOs T spec_l14Find_2_so := ((c.1, (), x, ()), ((c.2.Bills, c.2.Freed, ()), ()))
def spec_l14Find_2_prj (y : EVs T spec_l14Find_2_sv × EOs T spec_l14Find_2_so) : (Int × SBook) × Int := ((y.1.1, ((⟨y.2.1.1, y.2.1.2.1⟩ : SBook) : SBook)), (y.1.2.2.1))
def spec_l14Find_2_b (n : Nat) {R : Type} (K : Ex → Sm.St T → Option R) (c : Int × SBook) (x : Int) (J : Int → Option R) : Option R :=
  spec_l14Find_L2 n (K (.exit 0) (stOf (T := T) [] [] [] [] () ())) (fun (y0 : Int) => K .ret (stOf (T := T) [4] [] [.one (.int .i64)] [] (y0, ()) ())) J c.1 x c.2
def spec_l14Find_2_sp (n : Nat) : LSpec T := mkSpec T ⟨[], [1, 2, 5], [16]⟩ spec_l14Find_2_sv spec_l14Find_2_so (Int × SBook) (Int) spec_l14Find_2_emb spec_l14Find_2_prj (spec_l14Find_2_b n)
noncomputable def spec_l14Find_2_c : Code := ((loopCodes spec_l14Find_code)[0]?).getD .skip
def spec_l14Find_ann : Ann := fun id => bif Nat.beq id 3000002 then some ⟨[], [], []⟩ else bif Nat.beq id 2000002 then some ⟨[], [4], []⟩ else none
def spec_l14Find_Ls (n : Nat) : Nat → Option (LSpec T) := fun id => bif Nat.beq id 2 then some (spec_l14Find_2_sp n) else none
theorem spec_l14Find_2_le (n : Nat) : LoopEq (T := T) (Phi n 10) (spec_l14Find_Ls n) spec_l14Find_ann n spec_l14Find_2_c (spec_l14Find_2_sp n) := ⟨mkSpec_dec (fun y => rfl), fun c x => by kernel_rfl, fun K J c x => by kernel_rfl⟩
theorem spec_l14Find_tie (n : Nat) (b0 : SBook) (id1 : Int) : evF (T := T) (Phi n 10) (spec_l14Find_Ls n) spec_l14Find_ann n Try.f84 (sg 84) [vA T 31 b0, vA T 3 id1] spec_l14Find_dec = spec_l14Find n b0 id1 := by kernel_rfl
theorem spec_l14Find_lo (n : Nat) : LoopsOk (T := T) (Phi n 10) (spec_l14Find_Ls n) spec_l14Find_ann n spec_l14Find_code := loopsOk_all (cs := [spec_l14Find_2_c]) (by kernel_rfl) ⟨⟨_, by kernel_rfl, spec_l14Find_2_le n⟩, trivial⟩
theorem spec_l14Find_ok (n : Nat) : EntOk Try.prog (ents n) (spec_l14Find_ent n) := by
  intro hs ar y hg h
  replace h : spec_l14Find_D n ar = some y := h
  unfold spec_l14Find_D at h
  replace h := ocons_some h
  obtain ⟨a0, r0, rfl, h⟩ := h
  replace h := ocons_some h
  obtain ⟨a1, r1, rfl, h⟩ := h
  replace h := onil_some h
  obtain ⟨rfl, h⟩ := h
  obtain ⟨b0, qh0, h⟩ := obind_some h
  obtain ⟨id1, qh1, h⟩ := obind_some h
  rw [argV_eq ok qh0, argV_eq ok qh1]
  exact call_of (phiE_nat _ _) hs ok mixed Try.func84 (c := spec_l14Find_code) (by kernel_rfl) (spec_l14Find_lo n) (by kernel_rfl) (by kernel_rfl) (by kernel_rfl) spec_l14Find_de ((spec_l14Find_tie n b0 id1).trans h)
noncomputable def spec_l1In_code : Code := match Try.f174.body with | some c => c | none => .skip
def spec_l1In_ann : Ann := fun id => none
def spec_l1In_Ls (n : Nat) : Nat → Option (LSpec T) := fun id => none
theorem spec_l1In_tie (n : Nat) (x0 : Int) (a1 : Int) (b2 : Int) : evF (T := T) (Phi n 11) (spec_l1In_Ls n) spec_l1In_ann n Try.f174 (sg 174) [vA T 3 x0, vA T 3 a1, vA T 3 b2] spec_l1In_dec = spec_l1In n x0 a1 b2 := by kernel_rfl
theorem spec_l1In_lo (n : Nat) : LoopsOk (T := T) (Phi n 11) (spec_l1In_Ls n) spec_l1In_ann n spec_l1In_code := loopsOk_all (cs := []) (by kernel_rfl) trivial
theorem spec_l1In_ok (n : Nat) : EntOk Try.prog (ents n) (spec_l1In_ent n) := by
  intro hs ar y hg h
  replace h : spec_l1In_D n ar = some y := h
  unfold spec_l1In_D at h
  replace h := ocons_some h
  obtain ⟨a0, r0, rfl, h⟩ := h
  replace h := ocons_some h
  obtain ⟨a1, r1, rfl, h⟩ := h
  replace h := ocons_some h
  obtain ⟨a2, r2, rfl, h⟩ := h
  replace h := onil_some h
  obtain ⟨rfl, h⟩ := h
  obtain ⟨x0, qh0, h⟩ := obind_some h
  obtain ⟨a1, qh1, h⟩ := obind_some h
  obtain ⟨b2, qh2, h⟩ := obind_some h
  rw [argV_eq ok qh0, argV_eq ok qh1, argV_eq ok qh2]
  exact call_of (phiE_nat _ _) hs ok mixed Try.func174 (c := spec_l1In_code) (by kernel_rfl) (spec_l1In_lo n) (by kernel_rfl) (by kernel_rfl) (by kernel_rfl) spec_l1In_de ((spec_l1In_tie n x0 a1 b2).trans h)
noncomputable def spec_l1Name_code : Code := match Try.f175.body with | some c => c | none => .skip
def spec_l1Name_2_sv : List Sv := [.one (.str), .one (.int .i64)]
def spec_l1Name_2_so : List So := []
def spec_l1Name_2_emb (c : ByteArray) (x : Int) : EVs T spec_l1Name_2_sv × EOs T spec_l1Name_2_so := ((c, x, ()), ())
def spec_l1Name_2_prj (y : EVs T spec_l1Name_2_sv × EOs T spec_l1Name_2_so) : ByteArray × Int := ((y.1.1), (y.1.2.1))
def spec_l1Name_2_b (n : Nat) {R : Type} (K : Ex → Sm.St T → Option R) (c : ByteArray) (x : Int) (J : Int → Option R) : Option R :=
  spec_l1Name_L2 n (K (.exit 0) (stOf (T := T) [0] [] [.one (.str)] [] (c, ()) ())) (fun (y0 : Bool) => K .ret (stOf (T := T) [2] [] [.one (.bool)] [] (y0, ()) ())) J c x
def spec_l1Name_2_sp (n : Nat) : LSpec T := mkSpec T ⟨[], [0, 3], []⟩ spec_l1Name_2_sv spec_l1Name_2_so (ByteArray) (Int) spec_l1Name_2_emb spec_l1Name_2_prj (spec_l1Name_2_b n)
noncomputable def spec_l1Name_2_c : Code := ((loopCodes spec_l1Name_code)[0]?).getD .skip
def spec_l1Name_ann : Ann := fun id => bif Nat.beq id 3000002 then some ⟨[], [0], []⟩ else bif Nat.beq id 2000002 then some ⟨[], [2], []⟩ else none
def spec_l1Name_Ls (n : Nat) : Nat → Option (LSpec T) := fun id => bif Nat.beq id 2 then some (spec_l1Name_2_sp n) else none
theorem spec_l1Name_2_le (n : Nat) : LoopEq (T := T) (Phi n 12) (spec_l1Name_Ls n) spec_l1Name_ann n spec_l1Name_2_c (spec_l1Name_2_sp n) := ⟨mkSpec_dec (fun y => rfl), fun c x => by kernel_rfl, fun K J c x => by kernel_rfl⟩
theorem spec_l1Name_tie (n : Nat) (s0 : ByteArray) : evF (T := T) (Phi n 12) (spec_l1Name_Ls n) spec_l1Name_ann n Try.f175 (sg 175) [vA T 9 s0] spec_l1Name_dec = spec_l1Name n s0 := by kernel_rfl
theorem spec_l1Name_lo (n : Nat) : LoopsOk (T := T) (Phi n 12) (spec_l1Name_Ls n) spec_l1Name_ann n spec_l1Name_code := loopsOk_all (cs := [spec_l1Name_2_c]) (by kernel_rfl) ⟨⟨_, by kernel_rfl, spec_l1Name_2_le n⟩, trivial⟩
theorem spec_l1Name_ok (n : Nat) : EntOk Try.prog (ents n) (spec_l1Name_ent n) := by
  intro hs ar y hg h
  replace h : spec_l1Name_D n ar = some y := h
  unfold spec_l1Name_D at h
  replace h := ocons_some h
  obtain ⟨a0, r0, rfl, h⟩ := h
  replace h := onil_some h
  obtain ⟨rfl, h⟩ := h
  obtain ⟨s0, qh0, h⟩ := obind_some h
  rw [argV_eq ok qh0]
  exact call_of (phiE_nat _ _) hs ok mixed Try.func175 (c := spec_l1Name_code) (by kernel_rfl) (spec_l1Name_lo n) (by kernel_rfl) (by kernel_rfl) (by kernel_rfl) spec_l1Name_de ((spec_l1Name_tie n s0).trans h)
noncomputable def spec_BookOk_code : Code := match Try.f85.body with | some c => c | none => .skip
def spec_BookOk_2_sv : List Sv := [.one (.ptr 8 0 0), .one (.int .i64)]
def spec_BookOk_2_so : List So := [.var [.arr 79, .arr 3]]
def spec_BookOk_2_emb (c : SBook) (x : Int) : EVs T spec_BookOk_2_sv × EOs T spec_BookOk_2_so := (((), x, ()), ((c.Bills, c.Freed, ()), ()))
def spec_BookOk_2_prj (y : EVs T spec_BookOk_2_sv × EOs T spec_BookOk_2_so) : SBook × Int := ((((⟨y.2.1.1, y.2.1.2.1⟩ : SBook) : SBook)), (y.1.2.1))
def spec_BookOk_2_b (n : Nat) {R : Type} (K : Ex → Sm.St T → Option R) (c : SBook) (x : Int) (J : Int → Option R) : Option R :=
  spec_BookOk_L2 n (K (.exit 0) (stOf (T := T) [1] [8] [.one (.ptr 8 0 0)] [.var [.arr 79, .arr 3]] ((), ()) ((c.Bills, c.Freed, ()), ()))) (fun (y0 : Bool) => K .ret (stOf (T := T) [2] [] [.one (.bool)] [] (y0, ()) ())) J x c
def spec_BookOk_2_sp (n : Nat) : LSpec T := mkSpec T ⟨[], [1, 3], [8]⟩ spec_BookOk_2_sv spec_BookOk_2_so (SBook) (Int) spec_BookOk_2_emb spec_BookOk_2_prj (spec_BookOk_2_b n)
noncomputable def spec_BookOk_2_c : Code := ((loopCodes spec_BookOk_code)[0]?).getD .skip
def spec_BookOk_8_sv : List Sv := [.one (.ptr 8 0 0), .one (.int .i64), .one (.ptr 32 0 0), .one (.int .i64)]
def spec_BookOk_8_so : List So := [.var [.arr 79, .arr 3], .var [.int .i64, .str, .str, .int .i64, .arr 9]]
def spec_BookOk_8_emb (c : Int × SBook × SBill) (x : Int) : EVs T spec_BookOk_8_sv × EOs T spec_BookOk_8_so := (((), c.1, (), x, ()), ((c.2.1.Bills, c.2.1.Freed, ()), (c.2.2.Id, c.2.2.Shipper, c.2.2.Order, c.2.2.Many, c.2.2.Held, ()), ()))
def spec_BookOk_8_prj (y : EVs T spec_BookOk_8_sv × EOs T spec_BookOk_8_so) : (Int × SBook × SBill) × Int := ((y.1.2.1, ((⟨y.2.1.1, y.2.1.2.1⟩ : SBook) : SBook), ((⟨y.2.2.1.1, y.2.2.1.2.1, y.2.2.1.2.2.1, y.2.2.1.2.2.2.1, y.2.2.1.2.2.2.2.1⟩ : SBill) : SBill)), (y.1.2.2.2.1))
def spec_BookOk_8_b (n : Nat) {R : Type} (K : Ex → Sm.St T → Option R) (c : Int × SBook × SBill) (x : Int) (J : Int → Option R) : Option R :=
  spec_BookOk_L8 n (K (.exit 2) (stOf (T := T) [1, 3] [8] [.one (.ptr 8 0 0), .one (.int .i64)] [.var [.arr 79, .arr 3]] ((), c.1, ()) ((c.2.1.Bills, c.2.1.Freed, ()), ()))) (fun (y0 : Bool) => K .ret (stOf (T := T) [2] [] [.one (.bool)] [] (y0, ()) ())) J c.1 x c.2.1 c.2.2
def spec_BookOk_8_sp (n : Nat) : LSpec T := mkSpec T ⟨[], [1, 3, 4, 5], [8, 32]⟩ spec_BookOk_8_sv spec_BookOk_8_so (Int × SBook × SBill) (Int) spec_BookOk_8_emb spec_BookOk_8_prj (spec_BookOk_8_b n)
noncomputable def spec_BookOk_8_c : Code := ((loopCodes spec_BookOk_code)[1]?).getD .skip
def spec_BookOk_13_sv : List Sv := [.one (.ptr 8 0 0), .one (.int .i64)]
def spec_BookOk_13_so : List So := [.var [.arr 79, .arr 3]]
def spec_BookOk_13_emb (c : SBook) (x : Int) : EVs T spec_BookOk_13_sv × EOs T spec_BookOk_13_so := (((), x, ()), ((c.Bills, c.Freed, ()), ()))
def spec_BookOk_13_prj (y : EVs T spec_BookOk_13_sv × EOs T spec_BookOk_13_so) : SBook × Int := ((((⟨y.2.1.1, y.2.1.2.1⟩ : SBook) : SBook)), (y.1.2.1))
def spec_BookOk_13_b (n : Nat) {R : Type} (K : Ex → Sm.St T → Option R) (c : SBook) (x : Int) (J : Int → Option R) : Option R :=
  spec_BookOk_L13 n (K (.exit 4) (stOf (T := T) [1] [8] [.one (.ptr 8 0 0)] [.var [.arr 79, .arr 3]] ((), ()) ((c.Bills, c.Freed, ()), ()))) (fun (y0 : Bool) => K .ret (stOf (T := T) [2] [] [.one (.bool)] [] (y0, ()) ())) J x c
def spec_BookOk_13_sp (n : Nat) : LSpec T := mkSpec T ⟨[], [1, 6], [8]⟩ spec_BookOk_13_sv spec_BookOk_13_so (SBook) (Int) spec_BookOk_13_emb spec_BookOk_13_prj (spec_BookOk_13_b n)
noncomputable def spec_BookOk_13_c : Code := ((loopCodes spec_BookOk_code)[2]?).getD .skip
def spec_BookOk_ann : Ann := fun id => bif Nat.beq id 3000002 then some ⟨[], [1], [8]⟩ else bif Nat.beq id 2000002 then some ⟨[], [2], []⟩ else bif Nat.beq id 5000008 then some ⟨[], [1, 3], [8]⟩ else bif Nat.beq id 2000008 then some ⟨[], [2], []⟩ else bif Nat.beq id 7000013 then some ⟨[], [1], [8]⟩ else bif Nat.beq id 2000013 then some ⟨[], [2], []⟩ else none
def spec_BookOk_Ls (n : Nat) : Nat → Option (LSpec T) := fun id => bif Nat.beq id 2 then some (spec_BookOk_2_sp n) else bif Nat.beq id 8 then some (spec_BookOk_8_sp n) else bif Nat.beq id 13 then some (spec_BookOk_13_sp n) else none
theorem spec_BookOk_2_le (n : Nat) : LoopEq (T := T) (Phi n 13) (spec_BookOk_Ls n) spec_BookOk_ann n spec_BookOk_2_c (spec_BookOk_2_sp n) := ⟨mkSpec_dec (fun y => rfl), fun c x => by kernel_rfl, fun K J c x => by kernel_rfl⟩
theorem spec_BookOk_8_le (n : Nat) : LoopEq (T := T) (Phi n 13) (spec_BookOk_Ls n) spec_BookOk_ann n spec_BookOk_8_c (spec_BookOk_8_sp n) := ⟨mkSpec_dec (fun y => rfl), fun c x => by kernel_rfl, fun K J c x => by kernel_rfl⟩
theorem spec_BookOk_13_le (n : Nat) : LoopEq (T := T) (Phi n 13) (spec_BookOk_Ls n) spec_BookOk_ann n spec_BookOk_13_c (spec_BookOk_13_sp n) := ⟨mkSpec_dec (fun y => rfl), fun c x => by kernel_rfl, fun K J c x => by kernel_rfl⟩
theorem spec_BookOk_tie (n : Nat) (b0 : SBook) : evF (T := T) (Phi n 13) (spec_BookOk_Ls n) spec_BookOk_ann n Try.f85 (sg 85) [vA T 31 b0] spec_BookOk_dec = spec_BookOk n b0 := by kernel_rfl
theorem spec_BookOk_lo (n : Nat) : LoopsOk (T := T) (Phi n 13) (spec_BookOk_Ls n) spec_BookOk_ann n spec_BookOk_code := loopsOk_all (cs := [spec_BookOk_2_c, spec_BookOk_8_c, spec_BookOk_13_c]) (by kernel_rfl) ⟨⟨_, by kernel_rfl, spec_BookOk_2_le n⟩, ⟨_, by kernel_rfl, spec_BookOk_8_le n⟩, ⟨_, by kernel_rfl, spec_BookOk_13_le n⟩, trivial⟩
theorem spec_BookOk_ok (n : Nat) : EntOk Try.prog (ents n) (spec_BookOk_ent n) := by
  intro hs ar y hg h
  replace h : spec_BookOk_D n ar = some y := h
  unfold spec_BookOk_D at h
  replace h := ocons_some h
  obtain ⟨a0, r0, rfl, h⟩ := h
  replace h := onil_some h
  obtain ⟨rfl, h⟩ := h
  obtain ⟨b0, qh0, h⟩ := obind_some h
  rw [argV_eq ok qh0]
  exact call_of (phiE_nat _ _) hs ok mixed Try.func85 (c := spec_BookOk_code) (by kernel_rfl) (spec_BookOk_lo n) (by kernel_rfl) (by kernel_rfl) (by kernel_rfl) spec_BookOk_de ((spec_BookOk_tie n b0).trans h)
noncomputable def spec_l9Has_code : Code := match Try.f86.body with | some c => c | none => .skip
def spec_l9Has_2_sv : List Sv := [.one (.arr 3), .one (.int .i64), .one (.int .i64)]
def spec_l9Has_2_so : List So := []
def spec_l9Has_2_emb (c : List Int × Int) (x : Int) : EVs T spec_l9Has_2_sv × EOs T spec_l9Has_2_so := ((c.1, c.2, x, ()), ())
def spec_l9Has_2_prj (y : EVs T spec_l9Has_2_sv × EOs T spec_l9Has_2_so) : (List Int × Int) × Int := ((y.1.1, y.1.2.1), (y.1.2.2.1))
def spec_l9Has_2_b (n : Nat) {R : Type} (K : Ex → Sm.St T → Option R) (c : List Int × Int) (x : Int) (J : Int → Option R) : Option R :=
  spec_l9Has_L2 n (K (.exit 0) (stOf (T := T) [] [] [] [] () ())) (fun (y0 : Bool) => K .ret (stOf (T := T) [4] [] [.one (.bool)] [] (y0, ()) ())) J c.1 c.2 x
def spec_l9Has_2_sp (n : Nat) : LSpec T := mkSpec T ⟨[], [0, 1, 5], []⟩ spec_l9Has_2_sv spec_l9Has_2_so (List Int × Int) (Int) spec_l9Has_2_emb spec_l9Has_2_prj (spec_l9Has_2_b n)
noncomputable def spec_l9Has_2_c : Code := ((loopCodes spec_l9Has_code)[0]?).getD .skip
def spec_l9Has_ann : Ann := fun id => bif Nat.beq id 3000002 then some ⟨[], [], []⟩ else bif Nat.beq id 2000002 then some ⟨[], [4], []⟩ else none
def spec_l9Has_Ls (n : Nat) : Nat → Option (LSpec T) := fun id => bif Nat.beq id 2 then some (spec_l9Has_2_sp n) else none
theorem spec_l9Has_2_le (n : Nat) : LoopEq (T := T) (Phi n 14) (spec_l9Has_Ls n) spec_l9Has_ann n spec_l9Has_2_c (spec_l9Has_2_sp n) := ⟨mkSpec_dec (fun y => rfl), fun c x => by kernel_rfl, fun K J c x => by kernel_rfl⟩
theorem spec_l9Has_tie (n : Nat) (list0 : List Int) (x1 : Int) : evF (T := T) (Phi n 14) (spec_l9Has_Ls n) spec_l9Has_ann n Try.f86 (sg 86) [vA T 23 list0, vA T 3 x1] spec_l9Has_dec = spec_l9Has n list0 x1 := by kernel_rfl
theorem spec_l9Has_lo (n : Nat) : LoopsOk (T := T) (Phi n 14) (spec_l9Has_Ls n) spec_l9Has_ann n spec_l9Has_code := loopsOk_all (cs := [spec_l9Has_2_c]) (by kernel_rfl) ⟨⟨_, by kernel_rfl, spec_l9Has_2_le n⟩, trivial⟩
theorem spec_l9Has_ok (n : Nat) : EntOk Try.prog (ents n) (spec_l9Has_ent n) := by
  intro hs ar y hg h
  replace h : spec_l9Has_D n ar = some y := h
  unfold spec_l9Has_D at h
  replace h := ocons_some h
  obtain ⟨a0, r0, rfl, h⟩ := h
  replace h := ocons_some h
  obtain ⟨a1, r1, rfl, h⟩ := h
  replace h := onil_some h
  obtain ⟨rfl, h⟩ := h
  obtain ⟨list0, qh0, h⟩ := obind_some h
  obtain ⟨x1, qh1, h⟩ := obind_some h
  rw [argV_eq ok qh0, argV_eq ok qh1]
  exact call_of (phiE_nat _ _) hs ok mixed Try.func86 (c := spec_l9Has_code) (by kernel_rfl) (spec_l9Has_lo n) (by kernel_rfl) (by kernel_rfl) (by kernel_rfl) spec_l9Has_de ((spec_l9Has_tie n list0 x1).trans h)
noncomputable def spec_TitleOf_code : Code := match Try.f15.body with | some c => c | none => .skip
def spec_TitleOf_8_sv : List Sv := [.one (.ptr 56 0 0), .one (.int .i64)]
def spec_TitleOf_8_so : List So := [.var [.int .i64, .str, .str, .int .i64, .arr 9]]
def spec_TitleOf_8_emb (c : SBill) (x : Int) : EVs T spec_TitleOf_8_sv × EOs T spec_TitleOf_8_so := (((), x, ()), ((c.Id, c.Shipper, c.Order, c.Many, c.Held, ()), ()))
def spec_TitleOf_8_prj (y : EVs T spec_TitleOf_8_sv × EOs T spec_TitleOf_8_so) : SBill × Int := ((((⟨y.2.1.1, y.2.1.2.1, y.2.1.2.2.1, y.2.1.2.2.2.1, y.2.1.2.2.2.2.1⟩ : SBill) : SBill)), (y.1.2.1))
def spec_TitleOf_8_b (n : Nat) {R : Type} (K : Ex → Sm.St T → Option R) (c : SBill) (x : Int) (J : Int → Option R) : Option R :=
  spec_TitleOf_L8 n (K (.exit 0) (stOf (T := T) [] [] [] [] () ())) (fun (y0 : ByteArray) (y1 : Bool) => K .ret (stOf (T := T) [4, 5] [] [.one (.str), .one (.bool)] [] (y0, y1, ()) ())) J x c
def spec_TitleOf_8_sp (n : Nat) : LSpec T := mkSpec T ⟨[], [7, 8], [56]⟩ spec_TitleOf_8_sv spec_TitleOf_8_so (SBill) (Int) spec_TitleOf_8_emb spec_TitleOf_8_prj (spec_TitleOf_8_b n)
noncomputable def spec_TitleOf_8_c : Code := ((loopCodes spec_TitleOf_code)[0]?).getD .skip
def spec_TitleOf_ann : Ann := fun id => bif Nat.beq id 3000008 then some ⟨[], [], []⟩ else bif Nat.beq id 2000008 then some ⟨[], [4, 5], []⟩ else none
def spec_TitleOf_Ls (n : Nat) : Nat → Option (LSpec T) := fun id => bif Nat.beq id 8 then some (spec_TitleOf_8_sp n) else none
theorem spec_TitleOf_8_le (n : Nat) : LoopEq (T := T) (Phi n 15) (spec_TitleOf_Ls n) spec_TitleOf_ann n spec_TitleOf_8_c (spec_TitleOf_8_sp n) := ⟨mkSpec_dec (fun y => rfl), fun c x => by kernel_rfl, fun K J c x => by kernel_rfl⟩
theorem spec_TitleOf_tie (n : Nat) (b0 : SBook) (id1 : Int) : evF (T := T) (Phi n 15) (spec_TitleOf_Ls n) spec_TitleOf_ann n Try.f15 (sg 15) [vA T 31 b0, vA T 3 id1] spec_TitleOf_dec = spec_TitleOf n b0 id1 := by kernel_rfl
theorem spec_TitleOf_lo (n : Nat) : LoopsOk (T := T) (Phi n 15) (spec_TitleOf_Ls n) spec_TitleOf_ann n spec_TitleOf_code := loopsOk_all (cs := [spec_TitleOf_8_c]) (by kernel_rfl) ⟨⟨_, by kernel_rfl, spec_TitleOf_8_le n⟩, trivial⟩
theorem spec_TitleOf_ok (n : Nat) : EntOk Try.prog (ents n) (spec_TitleOf_ent n) := by
  intro hs ar y hg h
  replace h : spec_TitleOf_D n ar = some y := h
  unfold spec_TitleOf_D at h
  replace h := ocons_some h
  obtain ⟨a0, r0, rfl, h⟩ := h
  replace h := ocons_some h
  obtain ⟨a1, r1, rfl, h⟩ := h
  replace h := onil_some h
  obtain ⟨rfl, h⟩ := h
  obtain ⟨b0, qh0, h⟩ := obind_some h
  obtain ⟨id1, qh1, h⟩ := obind_some h
  rw [argV_eq ok qh0, argV_eq ok qh1]
  exact call_of (phiE_nat _ _) hs ok mixed Try.func15 (c := spec_TitleOf_code) (by kernel_rfl) (spec_TitleOf_lo n) (by kernel_rfl) (by kernel_rfl) (by kernel_rfl) spec_TitleOf_de ((spec_TitleOf_tie n b0 id1).trans h)
noncomputable def impl_in_code : Code := match Try.f101.body with | some c => c | none => .skip
def impl_in_ann : Ann := fun id => none
def impl_in_Ls (n : Nat) : Nat → Option (LSpec T) := fun id => none
theorem impl_in_tie (n : Nat) (n0 : Int) (least1 : Int) (most2 : Int) : evF (T := T) (Phi n 16) (impl_in_Ls n) impl_in_ann n Try.f101 (sg 101) [vA T 3 n0, vA T 3 least1, vA T 3 most2] impl_in_dec = impl_in n n0 least1 most2 := by kernel_rfl
theorem impl_in_lo (n : Nat) : LoopsOk (T := T) (Phi n 16) (impl_in_Ls n) impl_in_ann n impl_in_code := loopsOk_all (cs := []) (by kernel_rfl) trivial
theorem impl_in_ok (n : Nat) : EntOk Try.prog (ents n) (impl_in_ent n) := by
  intro hs ar y hg h
  replace h : impl_in_D n ar = some y := h
  unfold impl_in_D at h
  replace h := ocons_some h
  obtain ⟨a0, r0, rfl, h⟩ := h
  replace h := ocons_some h
  obtain ⟨a1, r1, rfl, h⟩ := h
  replace h := ocons_some h
  obtain ⟨a2, r2, rfl, h⟩ := h
  replace h := onil_some h
  obtain ⟨rfl, h⟩ := h
  obtain ⟨n0, qh0, h⟩ := obind_some h
  obtain ⟨least1, qh1, h⟩ := obind_some h
  obtain ⟨most2, qh2, h⟩ := obind_some h
  rw [argV_eq ok qh0, argV_eq ok qh1, argV_eq ok qh2]
  exact call_of (phiE_nat _ _) hs ok mixed Try.func101 (c := impl_in_code) (by kernel_rfl) (impl_in_lo n) (by kernel_rfl) (by kernel_rfl) (by kernel_rfl) impl_in_de ((impl_in_tie n n0 least1 most2).trans h)
noncomputable def impl_idRight_code : Code := match Try.f102.body with | some c => c | none => .skip
def impl_idRight_ann : Ann := fun id => none
def impl_idRight_Ls (n : Nat) : Nat → Option (LSpec T) := fun id => none
theorem impl_idRight_tie (n : Nat) (n0 : Int) : evF (T := T) (Phi n 17) (impl_idRight_Ls n) impl_idRight_ann n Try.f102 (sg 102) [vA T 3 n0] impl_idRight_dec = impl_idRight n n0 := by kernel_rfl
theorem impl_idRight_lo (n : Nat) : LoopsOk (T := T) (Phi n 17) (impl_idRight_Ls n) impl_idRight_ann n impl_idRight_code := loopsOk_all (cs := []) (by kernel_rfl) trivial
theorem impl_idRight_ok (n : Nat) : EntOk Try.prog (ents n) (impl_idRight_ent n) := by
  intro hs ar y hg h
  replace h : impl_idRight_D n ar = some y := h
  unfold impl_idRight_D at h
  replace h := ocons_some h
  obtain ⟨a0, r0, rfl, h⟩ := h
  replace h := onil_some h
  obtain ⟨rfl, h⟩ := h
  obtain ⟨n0, qh0, h⟩ := obind_some h
  rw [argV_eq ok qh0]
  exact call_of (phiE_nat _ _) hs ok mixed Try.func102 (c := impl_idRight_code) (by kernel_rfl) (impl_idRight_lo n) (by kernel_rfl) (by kernel_rfl) (by kernel_rfl) impl_idRight_de ((impl_idRight_tie n n0).trans h)
noncomputable def impl_nameOk_code : Code := match Try.f115.body with | some c => c | none => .skip
def impl_nameOk_4_sv : List Sv := [.one (.str), .one (.int .i64), .one (.int .i64)]
def impl_nameOk_4_so : List So := []
def impl_nameOk_4_emb (c : ByteArray × Int) (x : Int) : EVs T impl_nameOk_4_sv × EOs T impl_nameOk_4_so := ((c.1, c.2, x, ()), ())
def impl_nameOk_4_prj (y : EVs T impl_nameOk_4_sv × EOs T impl_nameOk_4_so) : (ByteArray × Int) × Int := ((y.1.1, y.1.2.1), (y.1.2.2.1))
def impl_nameOk_4_b (n : Nat) {R : Type} (K : Ex → Sm.St T → Option R) (c : ByteArray × Int) (x : Int) (J : Int → Option R) : Option R :=
  impl_nameOk_L4 n (K (.exit 0) (stOf (T := T) [] [] [] [] () ())) (fun (y0 : Bool) => K .ret (stOf (T := T) [2] [] [.one (.bool)] [] (y0, ()) ())) J c.1 c.2 x
def impl_nameOk_4_sp (n : Nat) : LSpec T := mkSpec T ⟨[], [0, 14, 15], []⟩ impl_nameOk_4_sv impl_nameOk_4_so (ByteArray × Int) (Int) impl_nameOk_4_emb impl_nameOk_4_prj (impl_nameOk_4_b n)
noncomputable def impl_nameOk_4_c : Code := ((loopCodes impl_nameOk_code)[0]?).getD .skip
def impl_nameOk_ann : Ann := fun id => bif Nat.beq id 3000004 then some ⟨[], [], []⟩ else bif Nat.beq id 2000004 then some ⟨[], [2], []⟩ else none
def impl_nameOk_Ls (n : Nat) : Nat → Option (LSpec T) := fun id => bif Nat.beq id 4 then some (impl_nameOk_4_sp n) else none
theorem impl_nameOk_4_le (n : Nat) : LoopEq (T := T) (Phi n 18) (impl_nameOk_Ls n) impl_nameOk_ann n impl_nameOk_4_c (impl_nameOk_4_sp n) := ⟨mkSpec_dec (fun y => rfl), fun c x => by kernel_rfl, fun K J c x => by kernel_rfl⟩
theorem impl_nameOk_tie (n : Nat) (s0 : ByteArray) : evF (T := T) (Phi n 18) (impl_nameOk_Ls n) impl_nameOk_ann n Try.f115 (sg 115) [vA T 9 s0] impl_nameOk_dec = impl_nameOk n s0 := by kernel_rfl
theorem impl_nameOk_lo (n : Nat) : LoopsOk (T := T) (Phi n 18) (impl_nameOk_Ls n) impl_nameOk_ann n impl_nameOk_code := loopsOk_all (cs := [impl_nameOk_4_c]) (by kernel_rfl) ⟨⟨_, by kernel_rfl, impl_nameOk_4_le n⟩, trivial⟩
theorem impl_nameOk_ok (n : Nat) : EntOk Try.prog (ents n) (impl_nameOk_ent n) := by
  intro hs ar y hg h
  replace h : impl_nameOk_D n ar = some y := h
  unfold impl_nameOk_D at h
  replace h := ocons_some h
  obtain ⟨a0, r0, rfl, h⟩ := h
  replace h := onil_some h
  obtain ⟨rfl, h⟩ := h
  obtain ⟨s0, qh0, h⟩ := obind_some h
  rw [argV_eq ok qh0]
  exact call_of (phiE_nat _ _) hs ok mixed Try.func115 (c := impl_nameOk_code) (by kernel_rfl) (impl_nameOk_lo n) (by kernel_rfl) (by kernel_rfl) (by kernel_rfl) impl_nameOk_de ((impl_nameOk_tie n s0).trans h)
noncomputable def impl_emptyOrName_code : Code := match Try.f116.body with | some c => c | none => .skip
def impl_emptyOrName_ann : Ann := fun id => none
def impl_emptyOrName_Ls (n : Nat) : Nat → Option (LSpec T) := fun id => none
theorem impl_emptyOrName_tie (n : Nat) (s0 : ByteArray) : evF (T := T) (Phi n 19) (impl_emptyOrName_Ls n) impl_emptyOrName_ann n Try.f116 (sg 116) [vA T 9 s0] impl_emptyOrName_dec = impl_emptyOrName n s0 := by kernel_rfl
theorem impl_emptyOrName_lo (n : Nat) : LoopsOk (T := T) (Phi n 19) (impl_emptyOrName_Ls n) impl_emptyOrName_ann n impl_emptyOrName_code := loopsOk_all (cs := []) (by kernel_rfl) trivial
theorem impl_emptyOrName_ok (n : Nat) : EntOk Try.prog (ents n) (impl_emptyOrName_ent n) := by
  intro hs ar y hg h
  replace h : impl_emptyOrName_D n ar = some y := h
  unfold impl_emptyOrName_D at h
  replace h := ocons_some h
  obtain ⟨a0, r0, rfl, h⟩ := h
  replace h := onil_some h
  obtain ⟨rfl, h⟩ := h
  obtain ⟨s0, qh0, h⟩ := obind_some h
  rw [argV_eq ok qh0]
  exact call_of (phiE_nat _ _) hs ok mixed Try.func116 (c := impl_emptyOrName_code) (by kernel_rfl) (impl_emptyOrName_lo n) (by kernel_rfl) (by kernel_rfl) (by kernel_rfl) impl_emptyOrName_de ((impl_emptyOrName_tie n s0).trans h)
noncomputable def impl_BookOk_1_code : Code := match Try.f130.body with | some c => c | none => .skip
def impl_BookOk_1_ann : Ann := fun id => none
def impl_BookOk_1_Ls (n : Nat) : Nat → Option (LSpec T) := fun id => none
theorem impl_BookOk_1_tie (n : Nat) (s0 : ByteArray) : evF (T := T) (Phi n 20) (impl_BookOk_1_Ls n) impl_BookOk_1_ann n Try.f130 (sg 130) [vA T 9 s0] impl_BookOk_1_dec = impl_BookOk_1 n s0 := by kernel_rfl
theorem impl_BookOk_1_lo (n : Nat) : LoopsOk (T := T) (Phi n 20) (impl_BookOk_1_Ls n) impl_BookOk_1_ann n impl_BookOk_1_code := loopsOk_all (cs := []) (by kernel_rfl) trivial
theorem impl_BookOk_1_ok (n : Nat) : EntOk Try.prog (ents n) (impl_BookOk_1_ent n) := by
  intro hs ar y hg h
  replace h : impl_BookOk_1_D n ar = some y := h
  unfold impl_BookOk_1_D at h
  replace h := ocons_some h
  obtain ⟨a0, r0, rfl, h⟩ := h
  replace h := onil_some h
  obtain ⟨rfl, h⟩ := h
  obtain ⟨s0, qh0, h⟩ := obind_some h
  rw [argV_eq ok qh0]
  exact call_of (phiE_nat _ _) hs ok mixed Try.func130 (c := impl_BookOk_1_code) (by kernel_rfl) (impl_BookOk_1_lo n) (by kernel_rfl) (by kernel_rfl) (by kernel_rfl) impl_BookOk_1_de ((impl_BookOk_1_tie n s0).trans h)
noncomputable def slices_IndexFunc_string_string__impl_BookOk_1_code : Code := match Try.f189.body with | some c => c | none => .skip
def slices_IndexFunc_string_string__impl_BookOk_1_2_sv : List Sv := [.one (.arr 9), .one (.fn 130 []), .one (.int .i64), .one (.int .i64)]
def slices_IndexFunc_string_string__impl_BookOk_1_2_so : List So := []
def slices_IndexFunc_string_string__impl_BookOk_1_2_emb (c : List ByteArray × Int) (x : Int) : EVs T slices_IndexFunc_string_string__impl_BookOk_1_2_sv × EOs T slices_IndexFunc_string_string__impl_BookOk_1_2_so := ((c.1, (), c.2, x, ()), ())
def slices_IndexFunc_string_string__impl_BookOk_1_2_prj (y : EVs T slices_IndexFunc_string_string__impl_BookOk_1_2_sv × EOs T slices_IndexFunc_string_string__impl_BookOk_1_2_so) : (List ByteArray × Int) × Int := ((y.1.1, y.1.2.2.1), (y.1.2.2.2.1))
def slices_IndexFunc_string_string__impl_BookOk_1_2_b (n : Nat) {R : Type} (K : Ex → Sm.St T → Option R) (c : List ByteArray × Int) (x : Int) (J : Int → Option R) : Option R :=
  slices_IndexFunc_string_string__impl_BookOk_1_L2 n (K (.exit 0) (stOf (T := T) [] [] [] [] () ())) (fun (y0 : Int) => K .ret (stOf (T := T) [4] [] [.one (.int .i64)] [] (y0, ()) ())) J c.1 c.2 x
def slices_IndexFunc_string_string__impl_BookOk_1_2_sp (n : Nat) : LSpec T := mkSpec T ⟨[], [0, 1, 7, 8], []⟩ slices_IndexFunc_string_string__impl_BookOk_1_2_sv slices_IndexFunc_string_string__impl_BookOk_1_2_so (List ByteArray × Int) (Int) slices_IndexFunc_string_string__impl_BookOk_1_2_emb slices_IndexFunc_string_string__impl_BookOk_1_2_prj (slices_IndexFunc_string_string__impl_BookOk_1_2_b n)
noncomputable def slices_IndexFunc_string_string__impl_BookOk_1_2_c : Code := ((loopCodes slices_IndexFunc_string_string__impl_BookOk_1_code)[0]?).getD .skip
def slices_IndexFunc_string_string__impl_BookOk_1_ann : Ann := fun id => bif Nat.beq id 3000002 then some ⟨[], [], []⟩ else bif Nat.beq id 2000002 then some ⟨[], [4], []⟩ else none
def slices_IndexFunc_string_string__impl_BookOk_1_Ls (n : Nat) : Nat → Option (LSpec T) := fun id => bif Nat.beq id 2 then some (slices_IndexFunc_string_string__impl_BookOk_1_2_sp n) else none
theorem slices_IndexFunc_string_string__impl_BookOk_1_2_le (n : Nat) : LoopEq (T := T) (Phi n 21) (slices_IndexFunc_string_string__impl_BookOk_1_Ls n) slices_IndexFunc_string_string__impl_BookOk_1_ann n slices_IndexFunc_string_string__impl_BookOk_1_2_c (slices_IndexFunc_string_string__impl_BookOk_1_2_sp n) := ⟨mkSpec_dec (fun y => rfl), fun c x => by kernel_rfl, fun K J c x => by kernel_rfl⟩
theorem slices_IndexFunc_string_string__impl_BookOk_1_tie (n : Nat) (s0 : List ByteArray) : evF (T := T) (Phi n 21) (slices_IndexFunc_string_string__impl_BookOk_1_Ls n) slices_IndexFunc_string_string__impl_BookOk_1_ann n Try.f189 (sg 189) [vA T 77 s0, .fn 130 []] slices_IndexFunc_string_string__impl_BookOk_1_dec = slices_IndexFunc_string_string__impl_BookOk_1 n s0 := by kernel_rfl
theorem slices_IndexFunc_string_string__impl_BookOk_1_lo (n : Nat) : LoopsOk (T := T) (Phi n 21) (slices_IndexFunc_string_string__impl_BookOk_1_Ls n) slices_IndexFunc_string_string__impl_BookOk_1_ann n slices_IndexFunc_string_string__impl_BookOk_1_code := loopsOk_all (cs := [slices_IndexFunc_string_string__impl_BookOk_1_2_c]) (by kernel_rfl) ⟨⟨_, by kernel_rfl, slices_IndexFunc_string_string__impl_BookOk_1_2_le n⟩, trivial⟩
theorem slices_IndexFunc_string_string__impl_BookOk_1_ok (n : Nat) : EntOk Try.prog (ents n) (slices_IndexFunc_string_string__impl_BookOk_1_ent n) := by
  intro hs ar y hg h
  replace h : slices_IndexFunc_string_string__impl_BookOk_1_D n ar = some y := h
  unfold slices_IndexFunc_string_string__impl_BookOk_1_D at h
  split at h
  · obtain ⟨s0, qh0, h⟩ := obind_some h
    rw [argV_eq ok qh0] at hg ⊢
    cases (show [_] = [130] from natsEq_eq hg)
    exact call_of (phiE_nat _ _) hs ok mixed Try.func189 (c := slices_IndexFunc_string_string__impl_BookOk_1_code) (by kernel_rfl) (slices_IndexFunc_string_string__impl_BookOk_1_lo n) (by kernel_rfl) (by kernel_rfl) (by kernel_rfl) slices_IndexFunc_string_string__impl_BookOk_1_de ((slices_IndexFunc_string_string__impl_BookOk_1_tie n s0).trans h)
  · cases h
noncomputable def slices_ContainsFunc_string_string__impl_BookOk_1_code : Code := match Try.f121.body with | some c => c | none => .skip
def slices_ContainsFunc_string_string__impl_BookOk_1_ann : Ann := fun id => none
def slices_ContainsFunc_string_string__impl_BookOk_1_Ls (n : Nat) : Nat → Option (LSpec T) := fun id => none
theorem slices_ContainsFunc_string_string__impl_BookOk_1_tie (n : Nat) (s0 : List ByteArray) : evF (T := T) (Phi n 22) (slices_ContainsFunc_string_string__impl_BookOk_1_Ls n) slices_ContainsFunc_string_string__impl_BookOk_1_ann n Try.f121 (sg 121) [vA T 77 s0, .fn 130 []] slices_ContainsFunc_string_string__impl_BookOk_1_dec = slices_ContainsFunc_string_string__impl_BookOk_1 n s0 := by kernel_rfl
theorem slices_ContainsFunc_string_string__impl_BookOk_1_lo (n : Nat) : LoopsOk (T := T) (Phi n 22) (slices_ContainsFunc_string_string__impl_BookOk_1_Ls n) slices_ContainsFunc_string_string__impl_BookOk_1_ann n slices_ContainsFunc_string_string__impl_BookOk_1_code := loopsOk_all (cs := []) (by kernel_rfl) trivial
theorem slices_ContainsFunc_string_string__impl_BookOk_1_ok (n : Nat) : EntOk Try.prog (ents n) (slices_ContainsFunc_string_string__impl_BookOk_1_ent n) := by
  intro hs ar y hg h
  replace h : slices_ContainsFunc_string_string__impl_BookOk_1_D n ar = some y := h
  unfold slices_ContainsFunc_string_string__impl_BookOk_1_D at h
  split at h
  · obtain ⟨s0, qh0, h⟩ := obind_some h
    rw [argV_eq ok qh0] at hg ⊢
    cases (show [_] = [130] from natsEq_eq hg)
    exact call_of (phiE_nat _ _) hs ok mixed Try.func121 (c := slices_ContainsFunc_string_string__impl_BookOk_1_code) (by kernel_rfl) (slices_ContainsFunc_string_string__impl_BookOk_1_lo n) (by kernel_rfl) (by kernel_rfl) (by kernel_rfl) slices_ContainsFunc_string_string__impl_BookOk_1_de ((slices_ContainsFunc_string_string__impl_BookOk_1_tie n s0).trans h)
  · cases h
noncomputable def impl_BookOk_code : Code := match Try.f44.body with | some c => c | none => .skip
def impl_BookOk_5_sv : List Sv := [.one (.ptr 8 0 0), .one (.map 96), .one (.arr 79), .one (.int .i64), .one (.int .i64)]
def impl_BookOk_5_so : List So := [.var [.arr 79, .arr 3], .map 3 4]
def impl_BookOk_5_emb (c : List SBill × Int × SBook) (x : Int × (List (Int × Bool))) : EVs T impl_BookOk_5_sv × EOs T impl_BookOk_5_so := (((), (), c.1, c.2.1, x.1, ()), ((c.2.2.Bills, c.2.2.Freed, ()), x.2, ()))
def impl_BookOk_5_prj (y : EVs T impl_BookOk_5_sv × EOs T impl_BookOk_5_so) : (List SBill × Int × SBook) × (Int × (List (Int × Bool))) := ((y.1.2.2.1, y.1.2.2.2.1, ((⟨y.2.1.1, y.2.1.2.1⟩ : SBook) : SBook)), (y.1.2.2.2.2.1, y.2.2.1))
def impl_BookOk_5_b (n : Nat) {R : Type} (K : Ex → Sm.St T → Option R) (c : List SBill × Int × SBook) (x : Int × (List (Int × Bool))) (J : (Int × (List (Int × Bool))) → Option R) : Option R :=
  impl_BookOk_L5 n (fun (y1 : List (Int × Bool)) => K (.exit 0) (stOf (T := T) [1, 3] [8, 96] [.one (.ptr 8 0 0), .one (.map 96)] [.var [.arr 79, .arr 3], .map 3 4] ((), (), ()) ((c.2.2.Bills, c.2.2.Freed, ()), y1, ()))) (fun (y0 : Bool) => K .ret (stOf (T := T) [2] [] [.one (.bool)] [] (y0, ()) ())) (fun z0 z1 => J (z0, z1)) c.1 c.2.1 x.1 c.2.2 x.2
def impl_BookOk_5_sp (n : Nat) : LSpec T := mkSpec T ⟨[], [1, 3, 14, 15, 16], [8, 96]⟩ impl_BookOk_5_sv impl_BookOk_5_so (List SBill × Int × SBook) (Int × (List (Int × Bool))) impl_BookOk_5_emb impl_BookOk_5_prj (impl_BookOk_5_b n)
noncomputable def impl_BookOk_5_c : Code := ((loopCodes impl_BookOk_code)[0]?).getD .skip
def impl_BookOk_12_sv : List Sv := [.one (.ptr 8 0 0), .one (.map 96), .one (.arr 3), .one (.int .i64), .one (.int .i64)]
def impl_BookOk_12_so : List So := [.var [.arr 79, .arr 3], .map 3 4]
def impl_BookOk_12_emb (c : List Int × Int × SBook × (List (Int × Bool))) (x : Int) : EVs T impl_BookOk_12_sv × EOs T impl_BookOk_12_so := (((), (), c.1, c.2.1, x, ()), ((c.2.2.1.Bills, c.2.2.1.Freed, ()), c.2.2.2, ()))
def impl_BookOk_12_prj (y : EVs T impl_BookOk_12_sv × EOs T impl_BookOk_12_so) : (List Int × Int × SBook × (List (Int × Bool))) × Int := ((y.1.2.2.1, y.1.2.2.2.1, ((⟨y.2.1.1, y.2.1.2.1⟩ : SBook) : SBook), y.2.2.1), (y.1.2.2.2.2.1))
def impl_BookOk_12_b (n : Nat) {R : Type} (K : Ex → Sm.St T → Option R) (c : List Int × Int × SBook × (List (Int × Bool))) (x : Int) (J : Int → Option R) : Option R :=
  impl_BookOk_L12 n (K (.exit 2) (stOf (T := T) [] [] [] [] () ())) (fun (y0 : Bool) => K .ret (stOf (T := T) [2] [] [.one (.bool)] [] (y0, ()) ())) J c.1 c.2.1 x c.2.2.1 c.2.2.2
def impl_BookOk_12_sp (n : Nat) : LSpec T := mkSpec T ⟨[], [1, 3, 77, 78, 79], [8, 96]⟩ impl_BookOk_12_sv impl_BookOk_12_so (List Int × Int × SBook × (List (Int × Bool))) (Int) impl_BookOk_12_emb impl_BookOk_12_prj (impl_BookOk_12_b n)
noncomputable def impl_BookOk_12_c : Code := ((loopCodes impl_BookOk_code)[1]?).getD .skip
def impl_BookOk_ann : Ann := fun id => bif Nat.beq id 3000005 then some ⟨[], [1, 3], [8, 96]⟩ else bif Nat.beq id 2000005 then some ⟨[], [2], []⟩ else bif Nat.beq id 5000012 then some ⟨[], [], []⟩ else bif Nat.beq id 2000012 then some ⟨[], [2], []⟩ else none
def impl_BookOk_Ls (n : Nat) : Nat → Option (LSpec T) := fun id => bif Nat.beq id 5 then some (impl_BookOk_5_sp n) else bif Nat.beq id 12 then some (impl_BookOk_12_sp n) else none
theorem impl_BookOk_5_le (n : Nat) : LoopEq (T := T) (Phi n 23) (impl_BookOk_Ls n) impl_BookOk_ann n impl_BookOk_5_c (impl_BookOk_5_sp n) := ⟨mkSpec_dec (fun y => rfl), fun c x => by kernel_rfl, fun K J c x => by kernel_rfl⟩
theorem impl_BookOk_12_le (n : Nat) : LoopEq (T := T) (Phi n 23) (impl_BookOk_Ls n) impl_BookOk_ann n impl_BookOk_12_c (impl_BookOk_12_sp n) := ⟨mkSpec_dec (fun y => rfl), fun c x => by kernel_rfl, fun K J c x => by kernel_rfl⟩
theorem impl_BookOk_tie (n : Nat) (b0 : SBook) : evF (T := T) (Phi n 23) (impl_BookOk_Ls n) impl_BookOk_ann n Try.f44 (sg 44) [vA T 31 b0] impl_BookOk_dec = impl_BookOk n b0 := by kernel_rfl
theorem impl_BookOk_lo (n : Nat) : LoopsOk (T := T) (Phi n 23) (impl_BookOk_Ls n) impl_BookOk_ann n impl_BookOk_code := loopsOk_all (cs := [impl_BookOk_5_c, impl_BookOk_12_c]) (by kernel_rfl) ⟨⟨_, by kernel_rfl, impl_BookOk_5_le n⟩, ⟨_, by kernel_rfl, impl_BookOk_12_le n⟩, trivial⟩
theorem impl_BookOk_ok (n : Nat) : EntOk Try.prog (ents n) (impl_BookOk_ent n) := by
  intro hs ar y hg h
  replace h : impl_BookOk_D n ar = some y := h
  unfold impl_BookOk_D at h
  replace h := ocons_some h
  obtain ⟨a0, r0, rfl, h⟩ := h
  replace h := onil_some h
  obtain ⟨rfl, h⟩ := h
  obtain ⟨b0, qh0, h⟩ := obind_some h
  rw [argV_eq ok qh0]
  exact call_of (phiE_nat _ _) hs ok mixed Try.func44 (c := impl_BookOk_code) (by kernel_rfl) (impl_BookOk_lo n) (by kernel_rfl) (by kernel_rfl) (by kernel_rfl) impl_BookOk_de ((impl_BookOk_tie n b0).trans h)
noncomputable def impl_Book_at_1_code : Code := match Try.f178.body with | some c => c | none => .skip
def impl_Book_at_1_ann : Ann := fun id => none
def impl_Book_at_1_Ls (n : Nat) : Nat → Option (LSpec T) := fun id => none
theorem impl_Book_at_1_tie (n : Nat) (x0 : SBill) (a1 : Int) : evF (T := T) (Phi n 24) (impl_Book_at_1_Ls n) impl_Book_at_1_ann n Try.f178 (sg 178) [vA T 79 x0, .ptr 3 a1] impl_Book_at_1_dec = impl_Book_at_1 n x0 a1 := by kernel_rfl
theorem impl_Book_at_1_lo (n : Nat) : LoopsOk (T := T) (Phi n 24) (impl_Book_at_1_Ls n) impl_Book_at_1_ann n impl_Book_at_1_code := loopsOk_all (cs := []) (by kernel_rfl) trivial
theorem impl_Book_at_1_ok (n : Nat) : EntOk Try.prog (ents n) (impl_Book_at_1_ent n) := by
  intro hs ar y hg h
  replace h : impl_Book_at_1_D n ar = some y := h
  unfold impl_Book_at_1_D at h
  replace h := ocons_some h
  obtain ⟨a0, r0, rfl, h⟩ := h
  replace h := ocons_some h
  obtain ⟨a1, r1, rfl, h⟩ := h
  replace h := onil_some h
  obtain ⟨rfl, h⟩ := h
  obtain ⟨x0, qh0, h⟩ := obind_some h
  obtain ⟨a1, qh1, h⟩ := obind_some h
  rw [argV_eq ok qh0, argP_eq qh1]
  exact call_of (phiE_nat _ _) hs ok mixed Try.func178 (c := impl_Book_at_1_code) (by kernel_rfl) (impl_Book_at_1_lo n) (by kernel_rfl) (by kernel_rfl) (by kernel_rfl) impl_Book_at_1_de ((impl_Book_at_1_tie n x0 a1).trans h)
noncomputable def slices_IndexFunc_impl_Bill_impl_Bill__impl_Book_at_1_code : Code := match Try.f177.body with | some c => c | none => .skip
def slices_IndexFunc_impl_Bill_impl_Bill__impl_Book_at_1_2_sv : List Sv := [.one (.arr 79), .one (.fnr 178 [3]), .one (.int .i64), .one (.int .i64)]
def slices_IndexFunc_impl_Bill_impl_Bill__impl_Book_at_1_2_so : List So := []
def slices_IndexFunc_impl_Bill_impl_Bill__impl_Book_at_1_2_emb (c : List SBill × Int × Int) (x : Int) : EVs T slices_IndexFunc_impl_Bill_impl_Bill__impl_Book_at_1_2_sv × EOs T slices_IndexFunc_impl_Bill_impl_Bill__impl_Book_at_1_2_so := ((c.1, (c.2.1, ()), c.2.2, x, ()), ())
def slices_IndexFunc_impl_Bill_impl_Bill__impl_Book_at_1_2_prj (y : EVs T slices_IndexFunc_impl_Bill_impl_Bill__impl_Book_at_1_2_sv × EOs T slices_IndexFunc_impl_Bill_impl_Bill__impl_Book_at_1_2_so) : (List SBill × Int × Int) × Int := ((y.1.1, y.1.2.1.1, y.1.2.2.1), (y.1.2.2.2.1))
def slices_IndexFunc_impl_Bill_impl_Bill__impl_Book_at_1_2_b (n : Nat) {R : Type} (K : Ex → Sm.St T → Option R) (c : List SBill × Int × Int) (x : Int) (J : Int → Option R) : Option R :=
  slices_IndexFunc_impl_Bill_impl_Bill__impl_Book_at_1_L2 n (K (.exit 0) (stOf (T := T) [] [] [] [] () ())) (fun (y0 : Int) => K .ret (stOf (T := T) [4] [] [.one (.int .i64)] [] (y0, ()) ())) J c.1 c.2.1 c.2.2 x
def slices_IndexFunc_impl_Bill_impl_Bill__impl_Book_at_1_2_sp (n : Nat) : LSpec T := mkSpec T ⟨[], [0, 1, 7, 8], []⟩ slices_IndexFunc_impl_Bill_impl_Bill__impl_Book_at_1_2_sv slices_IndexFunc_impl_Bill_impl_Bill__impl_Book_at_1_2_so (List SBill × Int × Int) (Int) slices_IndexFunc_impl_Bill_impl_Bill__impl_Book_at_1_2_emb slices_IndexFunc_impl_Bill_impl_Bill__impl_Book_at_1_2_prj (slices_IndexFunc_impl_Bill_impl_Bill__impl_Book_at_1_2_b n)
noncomputable def slices_IndexFunc_impl_Bill_impl_Bill__impl_Book_at_1_2_c : Code := ((loopCodes slices_IndexFunc_impl_Bill_impl_Bill__impl_Book_at_1_code)[0]?).getD .skip
def slices_IndexFunc_impl_Bill_impl_Bill__impl_Book_at_1_ann : Ann := fun id => bif Nat.beq id 3000002 then some ⟨[], [], []⟩ else bif Nat.beq id 2000002 then some ⟨[], [4], []⟩ else none
def slices_IndexFunc_impl_Bill_impl_Bill__impl_Book_at_1_Ls (n : Nat) : Nat → Option (LSpec T) := fun id => bif Nat.beq id 2 then some (slices_IndexFunc_impl_Bill_impl_Bill__impl_Book_at_1_2_sp n) else none
theorem slices_IndexFunc_impl_Bill_impl_Bill__impl_Book_at_1_2_le (n : Nat) : LoopEq (T := T) (Phi n 25) (slices_IndexFunc_impl_Bill_impl_Bill__impl_Book_at_1_Ls n) slices_IndexFunc_impl_Bill_impl_Bill__impl_Book_at_1_ann n slices_IndexFunc_impl_Bill_impl_Bill__impl_Book_at_1_2_c (slices_IndexFunc_impl_Bill_impl_Bill__impl_Book_at_1_2_sp n) := ⟨mkSpec_dec (fun y => rfl), fun c x => by kernel_rfl, fun K J c x => by kernel_rfl⟩
theorem slices_IndexFunc_impl_Bill_impl_Bill__impl_Book_at_1_tie (n : Nat) (s0 : List SBill) (f1c0 : Int) : evF (T := T) (Phi n 25) (slices_IndexFunc_impl_Bill_impl_Bill__impl_Book_at_1_Ls n) slices_IndexFunc_impl_Bill_impl_Bill__impl_Book_at_1_ann n Try.f177 (sg 177) [vA T 29 s0, .fn 178 [.ptr 3 f1c0]] slices_IndexFunc_impl_Bill_impl_Bill__impl_Book_at_1_dec = slices_IndexFunc_impl_Bill_impl_Bill__impl_Book_at_1 n s0 f1c0 := by kernel_rfl
theorem slices_IndexFunc_impl_Bill_impl_Bill__impl_Book_at_1_lo (n : Nat) : LoopsOk (T := T) (Phi n 25) (slices_IndexFunc_impl_Bill_impl_Bill__impl_Book_at_1_Ls n) slices_IndexFunc_impl_Bill_impl_Bill__impl_Book_at_1_ann n slices_IndexFunc_impl_Bill_impl_Bill__impl_Book_at_1_code := loopsOk_all (cs := [slices_IndexFunc_impl_Bill_impl_Bill__impl_Book_at_1_2_c]) (by kernel_rfl) ⟨⟨_, by kernel_rfl, slices_IndexFunc_impl_Bill_impl_Bill__impl_Book_at_1_2_le n⟩, trivial⟩
theorem slices_IndexFunc_impl_Bill_impl_Bill__impl_Book_at_1_ok (n : Nat) : EntOk Try.prog (ents n) (slices_IndexFunc_impl_Bill_impl_Bill__impl_Book_at_1_ent n) := by
  intro hs ar y hg h
  replace h : slices_IndexFunc_impl_Bill_impl_Bill__impl_Book_at_1_D n ar = some y := h
  unfold slices_IndexFunc_impl_Bill_impl_Bill__impl_Book_at_1_D at h
  split at h
  · obtain ⟨s0, qh0, h⟩ := obind_some h
    obtain ⟨f1c0, qh1, h⟩ := obind_some h
    rw [argV_eq ok qh0, argP_eq qh1] at hg ⊢
    cases (show [_] = [178] from natsEq_eq hg)
    exact call_of (phiE_nat _ _) hs ok mixed Try.func177 (c := slices_IndexFunc_impl_Bill_impl_Bill__impl_Book_at_1_code) (by kernel_rfl) (slices_IndexFunc_impl_Bill_impl_Bill__impl_Book_at_1_lo n) (by kernel_rfl) (by kernel_rfl) (by kernel_rfl) slices_IndexFunc_impl_Bill_impl_Bill__impl_Book_at_1_de ((slices_IndexFunc_impl_Bill_impl_Bill__impl_Book_at_1_tie n s0 f1c0).trans h)
  · cases h
noncomputable def impl_Book_at_code : Code := match Try.f89.body with | some c => c | none => .skip
def impl_Book_at_ann : Ann := fun id => none
def impl_Book_at_Ls (n : Nat) : Nat → Option (LSpec T) := fun id => none
theorem impl_Book_at_tie (n : Nat) (b0 : SBook) (id1 : Int) : evF (T := T) (Phi n 26) (impl_Book_at_Ls n) impl_Book_at_ann n Try.f89 (sg 89) [vA T 31 b0, vA T 3 id1] impl_Book_at_dec = impl_Book_at n b0 id1 := by kernel_rfl
theorem impl_Book_at_lo (n : Nat) : LoopsOk (T := T) (Phi n 26) (impl_Book_at_Ls n) impl_Book_at_ann n impl_Book_at_code := loopsOk_all (cs := []) (by kernel_rfl) trivial
theorem impl_Book_at_ok (n : Nat) : EntOk Try.prog (ents n) (impl_Book_at_ent n) := by
  intro hs ar y hg h
  replace h : impl_Book_at_D n ar = some y := h
  unfold impl_Book_at_D at h
  replace h := ocons_some h
  obtain ⟨a0, r0, rfl, h⟩ := h
  replace h := ocons_some h
  obtain ⟨a1, r1, rfl, h⟩ := h
  replace h := onil_some h
  obtain ⟨rfl, h⟩ := h
  obtain ⟨b0, qh0, h⟩ := obind_some h
  obtain ⟨id1, qh1, h⟩ := obind_some h
  rw [argV_eq ok qh0, argV_eq ok qh1]
  exact call_of (phiE_nat _ _) hs ok mixed Try.func89 (c := impl_Book_at_code) (by kernel_rfl) (impl_Book_at_lo n) (by kernel_rfl) (by kernel_rfl) (by kernel_rfl) impl_Book_at_de ((impl_Book_at_tie n b0 id1).trans h)
noncomputable def slices_Index_int_int_code : Code := match Try.f179.body with | some c => c | none => .skip
def slices_Index_int_int_2_sv : List Sv := [.one (.arr 3), .one (.int .i64), .one (.int .i64), .one (.int .i64)]
def slices_Index_int_int_2_so : List So := []
def slices_Index_int_int_2_emb (c : List Int × Int × Int) (x : Int) : EVs T slices_Index_int_int_2_sv × EOs T slices_Index_int_int_2_so := ((c.1, c.2.1, c.2.2, x, ()), ())
def slices_Index_int_int_2_prj (y : EVs T slices_Index_int_int_2_sv × EOs T slices_Index_int_int_2_so) : (List Int × Int × Int) × Int := ((y.1.1, y.1.2.1, y.1.2.2.1), (y.1.2.2.2.1))
def slices_Index_int_int_2_b (n : Nat) {R : Type} (K : Ex → Sm.St T → Option R) (c : List Int × Int × Int) (x : Int) (J : Int → Option R) : Option R :=
  slices_Index_int_int_L2 n (K (.exit 0) (stOf (T := T) [] [] [] [] () ())) (fun (y0 : Int) => K .ret (stOf (T := T) [4] [] [.one (.int .i64)] [] (y0, ()) ())) J c.1 c.2.1 c.2.2 x
def slices_Index_int_int_2_sp (n : Nat) : LSpec T := mkSpec T ⟨[], [0, 1, 7, 8], []⟩ slices_Index_int_int_2_sv slices_Index_int_int_2_so (List Int × Int × Int) (Int) slices_Index_int_int_2_emb slices_Index_int_int_2_prj (slices_Index_int_int_2_b n)
noncomputable def slices_Index_int_int_2_c : Code := ((loopCodes slices_Index_int_int_code)[0]?).getD .skip
def slices_Index_int_int_ann : Ann := fun id => bif Nat.beq id 3000002 then some ⟨[], [], []⟩ else bif Nat.beq id 2000002 then some ⟨[], [4], []⟩ else none
def slices_Index_int_int_Ls (n : Nat) : Nat → Option (LSpec T) := fun id => bif Nat.beq id 2 then some (slices_Index_int_int_2_sp n) else none
theorem slices_Index_int_int_2_le (n : Nat) : LoopEq (T := T) (Phi n 27) (slices_Index_int_int_Ls n) slices_Index_int_int_ann n slices_Index_int_int_2_c (slices_Index_int_int_2_sp n) := ⟨mkSpec_dec (fun y => rfl), fun c x => by kernel_rfl, fun K J c x => by kernel_rfl⟩
theorem slices_Index_int_int_tie (n : Nat) (s0 : List Int) (v1 : Int) : evF (T := T) (Phi n 27) (slices_Index_int_int_Ls n) slices_Index_int_int_ann n Try.f179 (sg 179) [vA T 23 s0, vA T 3 v1] slices_Index_int_int_dec = slices_Index_int_int n s0 v1 := by kernel_rfl
theorem slices_Index_int_int_lo (n : Nat) : LoopsOk (T := T) (Phi n 27) (slices_Index_int_int_Ls n) slices_Index_int_int_ann n slices_Index_int_int_code := loopsOk_all (cs := [slices_Index_int_int_2_c]) (by kernel_rfl) ⟨⟨_, by kernel_rfl, slices_Index_int_int_2_le n⟩, trivial⟩
theorem slices_Index_int_int_ok (n : Nat) : EntOk Try.prog (ents n) (slices_Index_int_int_ent n) := by
  intro hs ar y hg h
  replace h : slices_Index_int_int_D n ar = some y := h
  unfold slices_Index_int_int_D at h
  replace h := ocons_some h
  obtain ⟨a0, r0, rfl, h⟩ := h
  replace h := ocons_some h
  obtain ⟨a1, r1, rfl, h⟩ := h
  replace h := onil_some h
  obtain ⟨rfl, h⟩ := h
  obtain ⟨s0, qh0, h⟩ := obind_some h
  obtain ⟨v1, qh1, h⟩ := obind_some h
  rw [argV_eq ok qh0, argV_eq ok qh1]
  exact call_of (phiE_nat _ _) hs ok mixed Try.func179 (c := slices_Index_int_int_code) (by kernel_rfl) (slices_Index_int_int_lo n) (by kernel_rfl) (by kernel_rfl) (by kernel_rfl) slices_Index_int_int_de ((slices_Index_int_int_tie n s0 v1).trans h)
noncomputable def slices_Contains_int_int_code : Code := match Try.f90.body with | some c => c | none => .skip
def slices_Contains_int_int_ann : Ann := fun id => none
def slices_Contains_int_int_Ls (n : Nat) : Nat → Option (LSpec T) := fun id => none
theorem slices_Contains_int_int_tie (n : Nat) (s0 : List Int) (v1 : Int) : evF (T := T) (Phi n 28) (slices_Contains_int_int_Ls n) slices_Contains_int_int_ann n Try.f90 (sg 90) [vA T 23 s0, vA T 3 v1] slices_Contains_int_int_dec = slices_Contains_int_int n s0 v1 := by kernel_rfl
theorem slices_Contains_int_int_lo (n : Nat) : LoopsOk (T := T) (Phi n 28) (slices_Contains_int_int_Ls n) slices_Contains_int_int_ann n slices_Contains_int_int_code := loopsOk_all (cs := []) (by kernel_rfl) trivial
theorem slices_Contains_int_int_ok (n : Nat) : EntOk Try.prog (ents n) (slices_Contains_int_int_ent n) := by
  intro hs ar y hg h
  replace h : slices_Contains_int_int_D n ar = some y := h
  unfold slices_Contains_int_int_D at h
  replace h := ocons_some h
  obtain ⟨a0, r0, rfl, h⟩ := h
  replace h := ocons_some h
  obtain ⟨a1, r1, rfl, h⟩ := h
  replace h := onil_some h
  obtain ⟨rfl, h⟩ := h
  obtain ⟨s0, qh0, h⟩ := obind_some h
  obtain ⟨v1, qh1, h⟩ := obind_some h
  rw [argV_eq ok qh0, argV_eq ok qh1]
  exact call_of (phiE_nat _ _) hs ok mixed Try.func90 (c := slices_Contains_int_int_code) (by kernel_rfl) (slices_Contains_int_int_lo n) (by kernel_rfl) (by kernel_rfl) (by kernel_rfl) slices_Contains_int_int_de ((slices_Contains_int_int_tie n s0 v1).trans h)
noncomputable def impl_TitleOf_code : Code := match Try.f17.body with | some c => c | none => .skip
def impl_TitleOf_10_sv : List Sv := [.one (.arr 9), .one (.int .i64), .one (.int .i64)]
def impl_TitleOf_10_so : List So := []
def impl_TitleOf_10_emb (c : List ByteArray × Int) (x : Int) : EVs T impl_TitleOf_10_sv × EOs T impl_TitleOf_10_so := ((c.1, c.2, x, ()), ())
def impl_TitleOf_10_prj (y : EVs T impl_TitleOf_10_sv × EOs T impl_TitleOf_10_so) : (List ByteArray × Int) × Int := ((y.1.1, y.1.2.1), (y.1.2.2.1))
def impl_TitleOf_10_b (n : Nat) {R : Type} (K : Ex → Sm.St T → Option R) (c : List ByteArray × Int) (x : Int) (J : Int → Option R) : Option R :=
  impl_TitleOf_L10 n (K (.exit 0) (stOf (T := T) [] [] [] [] () ())) (fun (y0 : ByteArray) (y1 : Bool) => K .ret (stOf (T := T) [4, 5] [] [.one (.str), .one (.bool)] [] (y0, y1, ()) ())) J c.1 c.2 x
def impl_TitleOf_10_sp (n : Nat) : LSpec T := mkSpec T ⟨[], [35, 36, 37], []⟩ impl_TitleOf_10_sv impl_TitleOf_10_so (List ByteArray × Int) (Int) impl_TitleOf_10_emb impl_TitleOf_10_prj (impl_TitleOf_10_b n)
noncomputable def impl_TitleOf_10_c : Code := ((loopCodes impl_TitleOf_code)[0]?).getD .skip
def impl_TitleOf_ann : Ann := fun id => bif Nat.beq id 3000010 then some ⟨[], [], []⟩ else bif Nat.beq id 2000010 then some ⟨[], [4, 5], []⟩ else none
def impl_TitleOf_Ls (n : Nat) : Nat → Option (LSpec T) := fun id => bif Nat.beq id 10 then some (impl_TitleOf_10_sp n) else none
theorem impl_TitleOf_10_le (n : Nat) : LoopEq (T := T) (Phi n 29) (impl_TitleOf_Ls n) impl_TitleOf_ann n impl_TitleOf_10_c (impl_TitleOf_10_sp n) := ⟨mkSpec_dec (fun y => rfl), fun c x => by kernel_rfl, fun K J c x => by kernel_rfl⟩
theorem impl_TitleOf_tie (n : Nat) (b0 : SBook) (id1 : Int) : evF (T := T) (Phi n 29) (impl_TitleOf_Ls n) impl_TitleOf_ann n Try.f17 (sg 17) [vA T 31 b0, vA T 3 id1] impl_TitleOf_dec = impl_TitleOf n b0 id1 := by kernel_rfl
theorem impl_TitleOf_lo (n : Nat) : LoopsOk (T := T) (Phi n 29) (impl_TitleOf_Ls n) impl_TitleOf_ann n impl_TitleOf_code := loopsOk_all (cs := [impl_TitleOf_10_c]) (by kernel_rfl) ⟨⟨_, by kernel_rfl, impl_TitleOf_10_le n⟩, trivial⟩
theorem impl_TitleOf_ok (n : Nat) : EntOk Try.prog (ents n) (impl_TitleOf_ent n) := by
  intro hs ar y hg h
  replace h : impl_TitleOf_D n ar = some y := h
  unfold impl_TitleOf_D at h
  replace h := ocons_some h
  obtain ⟨a0, r0, rfl, h⟩ := h
  replace h := ocons_some h
  obtain ⟨a1, r1, rfl, h⟩ := h
  replace h := onil_some h
  obtain ⟨rfl, h⟩ := h
  obtain ⟨b0, qh0, h⟩ := obind_some h
  obtain ⟨id1, qh1, h⟩ := obind_some h
  rw [argV_eq ok qh0, argV_eq ok qh1]
  exact call_of (phiE_nat _ _) hs ok mixed Try.func17 (c := impl_TitleOf_code) (by kernel_rfl) (impl_TitleOf_lo n) (by kernel_rfl) (by kernel_rfl) (by kernel_rfl) impl_TitleOf_de ((impl_TitleOf_tie n b0 id1).trans h)
noncomputable def laws_eqStringS_code : Code := match Try.f216.body with | some c => c | none => .skip
def laws_eqStringS_4_sv : List Sv := [.one (.arr 9), .one (.arr 9), .one (.int .i64)]
def laws_eqStringS_4_so : List So := []
def laws_eqStringS_4_emb (c : List ByteArray × List ByteArray) (x : Int) : EVs T laws_eqStringS_4_sv × EOs T laws_eqStringS_4_so := ((c.1, c.2, x, ()), ())
def laws_eqStringS_4_prj (y : EVs T laws_eqStringS_4_sv × EOs T laws_eqStringS_4_so) : (List ByteArray × List ByteArray) × Int := ((y.1.1, y.1.2.1), (y.1.2.2.1))
def laws_eqStringS_4_b (n : Nat) {R : Type} (K : Ex → Sm.St T → Option R) (c : List ByteArray × List ByteArray) (x : Int) (J : Int → Option R) : Option R :=
  laws_eqStringS_L4 n (K (.exit 0) (stOf (T := T) [] [] [] [] () ())) (fun (y0 : Bool) => K .ret (stOf (T := T) [4] [] [.one (.bool)] [] (y0, ()) ())) J c.1 c.2 x
def laws_eqStringS_4_sp (n : Nat) : LSpec T := mkSpec T ⟨[], [0, 1, 5], []⟩ laws_eqStringS_4_sv laws_eqStringS_4_so (List ByteArray × List ByteArray) (Int) laws_eqStringS_4_emb laws_eqStringS_4_prj (laws_eqStringS_4_b n)
noncomputable def laws_eqStringS_4_c : Code := ((loopCodes laws_eqStringS_code)[0]?).getD .skip
def laws_eqStringS_ann : Ann := fun id => bif Nat.beq id 3000004 then some ⟨[], [], []⟩ else bif Nat.beq id 2000004 then some ⟨[], [4], []⟩ else none
def laws_eqStringS_Ls (n : Nat) : Nat → Option (LSpec T) := fun id => bif Nat.beq id 4 then some (laws_eqStringS_4_sp n) else none
theorem laws_eqStringS_4_le (n : Nat) : LoopEq (T := T) (Phi n 30) (laws_eqStringS_Ls n) laws_eqStringS_ann n laws_eqStringS_4_c (laws_eqStringS_4_sp n) := ⟨mkSpec_dec (fun y => rfl), fun c x => by kernel_rfl, fun K J c x => by kernel_rfl⟩
theorem laws_eqStringS_tie (n : Nat) (a0 : List ByteArray) (b1 : List ByteArray) : evF (T := T) (Phi n 30) (laws_eqStringS_Ls n) laws_eqStringS_ann n Try.f216 (sg 216) [vA T 77 a0, vA T 77 b1] laws_eqStringS_dec = laws_eqStringS n a0 b1 := by kernel_rfl
theorem laws_eqStringS_lo (n : Nat) : LoopsOk (T := T) (Phi n 30) (laws_eqStringS_Ls n) laws_eqStringS_ann n laws_eqStringS_code := loopsOk_all (cs := [laws_eqStringS_4_c]) (by kernel_rfl) ⟨⟨_, by kernel_rfl, laws_eqStringS_4_le n⟩, trivial⟩
theorem laws_eqStringS_ok (n : Nat) : EntOk Try.prog (ents n) (laws_eqStringS_ent n) := by
  intro hs ar y hg h
  replace h : laws_eqStringS_D n ar = some y := h
  unfold laws_eqStringS_D at h
  replace h := ocons_some h
  obtain ⟨a0, r0, rfl, h⟩ := h
  replace h := ocons_some h
  obtain ⟨a1, r1, rfl, h⟩ := h
  replace h := onil_some h
  obtain ⟨rfl, h⟩ := h
  obtain ⟨a0, qh0, h⟩ := obind_some h
  obtain ⟨b1, qh1, h⟩ := obind_some h
  rw [argV_eq ok qh0, argV_eq ok qh1]
  exact call_of (phiE_nat _ _) hs ok mixed Try.func216 (c := laws_eqStringS_code) (by kernel_rfl) (laws_eqStringS_lo n) (by kernel_rfl) (by kernel_rfl) (by kernel_rfl) laws_eqStringS_de ((laws_eqStringS_tie n a0 b1).trans h)
noncomputable def laws_eqBill_code : Code := match Try.f180.body with | some c => c | none => .skip
def laws_eqBill_ann : Ann := fun id => none
def laws_eqBill_Ls (n : Nat) : Nat → Option (LSpec T) := fun id => none
theorem laws_eqBill_tie (n : Nat) (a0 : SBill) (b1 : SBill) : evF (T := T) (Phi n 31) (laws_eqBill_Ls n) laws_eqBill_ann n Try.f180 (sg 180) [vA T 79 a0, vA T 79 b1] laws_eqBill_dec = laws_eqBill n a0 b1 := by kernel_rfl
theorem laws_eqBill_lo (n : Nat) : LoopsOk (T := T) (Phi n 31) (laws_eqBill_Ls n) laws_eqBill_ann n laws_eqBill_code := loopsOk_all (cs := []) (by kernel_rfl) trivial
theorem laws_eqBill_ok (n : Nat) : EntOk Try.prog (ents n) (laws_eqBill_ent n) := by
  intro hs ar y hg h
  replace h : laws_eqBill_D n ar = some y := h
  unfold laws_eqBill_D at h
  replace h := ocons_some h
  obtain ⟨a0, r0, rfl, h⟩ := h
  replace h := ocons_some h
  obtain ⟨a1, r1, rfl, h⟩ := h
  replace h := onil_some h
  obtain ⟨rfl, h⟩ := h
  obtain ⟨a0, qh0, h⟩ := obind_some h
  obtain ⟨b1, qh1, h⟩ := obind_some h
  rw [argV_eq ok qh0, argV_eq ok qh1]
  exact call_of (phiE_nat _ _) hs ok mixed Try.func180 (c := laws_eqBill_code) (by kernel_rfl) (laws_eqBill_lo n) (by kernel_rfl) (by kernel_rfl) (by kernel_rfl) laws_eqBill_de ((laws_eqBill_tie n a0 b1).trans h)
noncomputable def laws_eqBillS_code : Code := match Try.f91.body with | some c => c | none => .skip
def laws_eqBillS_4_sv : List Sv := [.one (.arr 79), .one (.arr 79), .one (.int .i64)]
def laws_eqBillS_4_so : List So := []
def laws_eqBillS_4_emb (c : List SBill × List SBill) (x : Int) : EVs T laws_eqBillS_4_sv × EOs T laws_eqBillS_4_so := ((c.1, c.2, x, ()), ())
def laws_eqBillS_4_prj (y : EVs T laws_eqBillS_4_sv × EOs T laws_eqBillS_4_so) : (List SBill × List SBill) × Int := ((y.1.1, y.1.2.1), (y.1.2.2.1))
def laws_eqBillS_4_b (n : Nat) {R : Type} (K : Ex → Sm.St T → Option R) (c : List SBill × List SBill) (x : Int) (J : Int → Option R) : Option R :=
  laws_eqBillS_L4 n (K (.exit 0) (stOf (T := T) [] [] [] [] () ())) (fun (y0 : Bool) => K .ret (stOf (T := T) [4] [] [.one (.bool)] [] (y0, ()) ())) J c.1 c.2 x
def laws_eqBillS_4_sp (n : Nat) : LSpec T := mkSpec T ⟨[], [0, 1, 5], []⟩ laws_eqBillS_4_sv laws_eqBillS_4_so (List SBill × List SBill) (Int) laws_eqBillS_4_emb laws_eqBillS_4_prj (laws_eqBillS_4_b n)
noncomputable def laws_eqBillS_4_c : Code := ((loopCodes laws_eqBillS_code)[0]?).getD .skip
def laws_eqBillS_ann : Ann := fun id => bif Nat.beq id 3000004 then some ⟨[], [], []⟩ else bif Nat.beq id 2000004 then some ⟨[], [4], []⟩ else none
def laws_eqBillS_Ls (n : Nat) : Nat → Option (LSpec T) := fun id => bif Nat.beq id 4 then some (laws_eqBillS_4_sp n) else none
theorem laws_eqBillS_4_le (n : Nat) : LoopEq (T := T) (Phi n 32) (laws_eqBillS_Ls n) laws_eqBillS_ann n laws_eqBillS_4_c (laws_eqBillS_4_sp n) := ⟨mkSpec_dec (fun y => rfl), fun c x => by kernel_rfl, fun K J c x => by kernel_rfl⟩
theorem laws_eqBillS_tie (n : Nat) (a0 : List SBill) (b1 : List SBill) : evF (T := T) (Phi n 32) (laws_eqBillS_Ls n) laws_eqBillS_ann n Try.f91 (sg 91) [vA T 29 a0, vA T 29 b1] laws_eqBillS_dec = laws_eqBillS n a0 b1 := by kernel_rfl
theorem laws_eqBillS_lo (n : Nat) : LoopsOk (T := T) (Phi n 32) (laws_eqBillS_Ls n) laws_eqBillS_ann n laws_eqBillS_code := loopsOk_all (cs := [laws_eqBillS_4_c]) (by kernel_rfl) ⟨⟨_, by kernel_rfl, laws_eqBillS_4_le n⟩, trivial⟩
theorem laws_eqBillS_ok (n : Nat) : EntOk Try.prog (ents n) (laws_eqBillS_ent n) := by
  intro hs ar y hg h
  replace h : laws_eqBillS_D n ar = some y := h
  unfold laws_eqBillS_D at h
  replace h := ocons_some h
  obtain ⟨a0, r0, rfl, h⟩ := h
  replace h := ocons_some h
  obtain ⟨a1, r1, rfl, h⟩ := h
  replace h := onil_some h
  obtain ⟨rfl, h⟩ := h
  obtain ⟨a0, qh0, h⟩ := obind_some h
  obtain ⟨b1, qh1, h⟩ := obind_some h
  rw [argV_eq ok qh0, argV_eq ok qh1]
  exact call_of (phiE_nat _ _) hs ok mixed Try.func91 (c := laws_eqBillS_code) (by kernel_rfl) (laws_eqBillS_lo n) (by kernel_rfl) (by kernel_rfl) (by kernel_rfl) laws_eqBillS_de ((laws_eqBillS_tie n a0 b1).trans h)
noncomputable def laws_eqIntS_code : Code := match Try.f31.body with | some c => c | none => .skip
def laws_eqIntS_4_sv : List Sv := [.one (.arr 3), .one (.arr 3), .one (.int .i64)]
def laws_eqIntS_4_so : List So := []
def laws_eqIntS_4_emb (c : List Int × List Int) (x : Int) : EVs T laws_eqIntS_4_sv × EOs T laws_eqIntS_4_so := ((c.1, c.2, x, ()), ())
def laws_eqIntS_4_prj (y : EVs T laws_eqIntS_4_sv × EOs T laws_eqIntS_4_so) : (List Int × List Int) × Int := ((y.1.1, y.1.2.1), (y.1.2.2.1))
def laws_eqIntS_4_b (n : Nat) {R : Type} (K : Ex → Sm.St T → Option R) (c : List Int × List Int) (x : Int) (J : Int → Option R) : Option R :=
  laws_eqIntS_L4 n (K (.exit 0) (stOf (T := T) [] [] [] [] () ())) (fun (y0 : Bool) => K .ret (stOf (T := T) [4] [] [.one (.bool)] [] (y0, ()) ())) J c.1 c.2 x
def laws_eqIntS_4_sp (n : Nat) : LSpec T := mkSpec T ⟨[], [0, 1, 5], []⟩ laws_eqIntS_4_sv laws_eqIntS_4_so (List Int × List Int) (Int) laws_eqIntS_4_emb laws_eqIntS_4_prj (laws_eqIntS_4_b n)
noncomputable def laws_eqIntS_4_c : Code := ((loopCodes laws_eqIntS_code)[0]?).getD .skip
def laws_eqIntS_ann : Ann := fun id => bif Nat.beq id 3000004 then some ⟨[], [], []⟩ else bif Nat.beq id 2000004 then some ⟨[], [4], []⟩ else none
def laws_eqIntS_Ls (n : Nat) : Nat → Option (LSpec T) := fun id => bif Nat.beq id 4 then some (laws_eqIntS_4_sp n) else none
theorem laws_eqIntS_4_le (n : Nat) : LoopEq (T := T) (Phi n 33) (laws_eqIntS_Ls n) laws_eqIntS_ann n laws_eqIntS_4_c (laws_eqIntS_4_sp n) := ⟨mkSpec_dec (fun y => rfl), fun c x => by kernel_rfl, fun K J c x => by kernel_rfl⟩
theorem laws_eqIntS_tie (n : Nat) (a0 : List Int) (b1 : List Int) : evF (T := T) (Phi n 33) (laws_eqIntS_Ls n) laws_eqIntS_ann n Try.f31 (sg 31) [vA T 23 a0, vA T 23 b1] laws_eqIntS_dec = laws_eqIntS n a0 b1 := by kernel_rfl
theorem laws_eqIntS_lo (n : Nat) : LoopsOk (T := T) (Phi n 33) (laws_eqIntS_Ls n) laws_eqIntS_ann n laws_eqIntS_code := loopsOk_all (cs := [laws_eqIntS_4_c]) (by kernel_rfl) ⟨⟨_, by kernel_rfl, laws_eqIntS_4_le n⟩, trivial⟩
theorem laws_eqIntS_ok (n : Nat) : EntOk Try.prog (ents n) (laws_eqIntS_ent n) := by
  intro hs ar y hg h
  replace h : laws_eqIntS_D n ar = some y := h
  unfold laws_eqIntS_D at h
  replace h := ocons_some h
  obtain ⟨a0, r0, rfl, h⟩ := h
  replace h := ocons_some h
  obtain ⟨a1, r1, rfl, h⟩ := h
  replace h := onil_some h
  obtain ⟨rfl, h⟩ := h
  obtain ⟨a0, qh0, h⟩ := obind_some h
  obtain ⟨b1, qh1, h⟩ := obind_some h
  rw [argV_eq ok qh0, argV_eq ok qh1]
  exact call_of (phiE_nat _ _) hs ok mixed Try.func31 (c := laws_eqIntS_code) (by kernel_rfl) (laws_eqIntS_lo n) (by kernel_rfl) (by kernel_rfl) (by kernel_rfl) laws_eqIntS_de ((laws_eqIntS_tie n a0 b1).trans h)
noncomputable def laws_eqBook_code : Code := match Try.f18.body with | some c => c | none => .skip
def laws_eqBook_ann : Ann := fun id => none
def laws_eqBook_Ls (n : Nat) : Nat → Option (LSpec T) := fun id => none
theorem laws_eqBook_tie (n : Nat) (a0 : SBook) (b1 : SBook) : evF (T := T) (Phi n 34) (laws_eqBook_Ls n) laws_eqBook_ann n Try.f18 (sg 18) [vA T 31 a0, vA T 31 b1] laws_eqBook_dec = laws_eqBook n a0 b1 := by kernel_rfl
theorem laws_eqBook_lo (n : Nat) : LoopsOk (T := T) (Phi n 34) (laws_eqBook_Ls n) laws_eqBook_ann n laws_eqBook_code := loopsOk_all (cs := []) (by kernel_rfl) trivial
theorem laws_eqBook_ok (n : Nat) : EntOk Try.prog (ents n) (laws_eqBook_ent n) := by
  intro hs ar y hg h
  replace h : laws_eqBook_D n ar = some y := h
  unfold laws_eqBook_D at h
  replace h := ocons_some h
  obtain ⟨a0, r0, rfl, h⟩ := h
  replace h := ocons_some h
  obtain ⟨a1, r1, rfl, h⟩ := h
  replace h := onil_some h
  obtain ⟨rfl, h⟩ := h
  obtain ⟨a0, qh0, h⟩ := obind_some h
  obtain ⟨b1, qh1, h⟩ := obind_some h
  rw [argV_eq ok qh0, argV_eq ok qh1]
  exact call_of (phiE_nat _ _) hs ok mixed Try.func18 (c := laws_eqBook_code) (by kernel_rfl) (laws_eqBook_lo n) (by kernel_rfl) (by kernel_rfl) (by kernel_rfl) laws_eqBook_de ((laws_eqBook_tie n a0 b1).trans h)
noncomputable def laws_FnExactTitleOf_code : Code := match Try.f3.body with | some c => c | none => .skip
def laws_FnExactTitleOf_ann : Ann := fun id => none
def laws_FnExactTitleOf_Ls (n : Nat) : Nat → Option (LSpec T) := fun id => none
theorem laws_FnExactTitleOf_tie (n : Nat) (aB0 : SBook) (aId1 : Int) : evF (T := T) (Phi n 35) (laws_FnExactTitleOf_Ls n) laws_FnExactTitleOf_ann n Try.f3 (sg 3) [vA T 25 aB0, vA T 3 aId1] laws_FnExactTitleOf_dec = laws_FnExactTitleOf n aB0 aId1 := by kernel_rfl
theorem laws_FnExactTitleOf_lo (n : Nat) : LoopsOk (T := T) (Phi n 35) (laws_FnExactTitleOf_Ls n) laws_FnExactTitleOf_ann n laws_FnExactTitleOf_code := loopsOk_all (cs := []) (by kernel_rfl) trivial
theorem laws_FnExactTitleOf_ok (n : Nat) : EntOk Try.prog (ents n) (laws_FnExactTitleOf_ent n) := by
  intro hs ar y hg h
  replace h : laws_FnExactTitleOf_D n ar = some y := h
  unfold laws_FnExactTitleOf_D at h
  replace h := ocons_some h
  obtain ⟨a0, r0, rfl, h⟩ := h
  replace h := ocons_some h
  obtain ⟨a1, r1, rfl, h⟩ := h
  replace h := onil_some h
  obtain ⟨rfl, h⟩ := h
  obtain ⟨aB0, qh0, h⟩ := obind_some h
  obtain ⟨aId1, qh1, h⟩ := obind_some h
  rw [argV_eq ok qh0, argV_eq ok qh1]
  exact call_of (phiE_nat _ _) hs ok mixed Try.func3 (c := laws_FnExactTitleOf_code) (by kernel_rfl) (laws_FnExactTitleOf_lo n) (by kernel_rfl) (by kernel_rfl) (by kernel_rfl) laws_FnExactTitleOf_de ((laws_FnExactTitleOf_tie n aB0 aId1).trans h)
theorem entsOk (n : Nat) : EntsOk Try.prog (ents n) (ents n) := ⟨laws_szStringS_ok n, laws_szBill_ok n, laws_szBillS_ok n, laws_szIntS_ok n, laws_szBook_ok n, laws_toStringS_ok n, laws_toBill_ok n, laws_toBillS_ok n, laws_toIntS_ok n, laws_toBook_ok n, spec_l14Find_ok n, spec_l1In_ok n, spec_l1Name_ok n, spec_BookOk_ok n, spec_l9Has_ok n, spec_TitleOf_ok n, impl_in_ok n, impl_idRight_ok n, impl_nameOk_ok n, impl_emptyOrName_ok n, impl_BookOk_1_ok n, slices_IndexFunc_string_string__impl_BookOk_1_ok n, slices_ContainsFunc_string_string__impl_BookOk_1_ok n, impl_BookOk_ok n, impl_Book_at_1_ok n, slices_IndexFunc_impl_Bill_impl_Bill__impl_Book_at_1_ok n, impl_Book_at_ok n, slices_Index_int_int_ok n, slices_Contains_int_int_ok n, impl_TitleOf_ok n, laws_eqStringS_ok n, laws_eqBill_ok n, laws_eqBillS_ok n, laws_eqIntS_ok n, laws_eqBook_ok n, laws_FnExactTitleOf_ok n, trivial⟩
theorem sem (n i : Nat) : SemOk (Phi n i) (CallOk Try.prog T) := phiE_ok (entsOk n) i
end Go.Sm.D3
