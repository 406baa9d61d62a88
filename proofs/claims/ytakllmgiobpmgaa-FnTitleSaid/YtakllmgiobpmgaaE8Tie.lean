import Derived.Test.YtakllmgiobpmgaaE8Tb
import Derived.Test.YtakllmgiobpmgaaEngE
import Derived.Test.YtakllmgiobpmgaaLay
import Derived.KernelRfl
/- Each function's code computes what the plain function computes. -/
set_option linter.unusedSimpArgs false
set_option linter.deprecated false
set_option linter.unusedSectionVars false
set_option linter.unusedVariables false
set_option maxRecDepth 100000
open Go Go.Proofs
noncomputable section
namespace Go.Sm.E8
/-- By recursors, and of a greater height than all of the functions: the kernel takes these apart first. -/
def obind {α β : Type} (o : Option α) (f : α → Option β) : Option β := let _ := @laws_FnTitle; Option.rec (motive := fun _ => Option β) none (fun a => f a) o
theorem obind_some {α β : Type} {o : Option α} {f : α → Option β} {y : β} (h : obind o f = some y) : ∃ a, o = some a ∧ f a = some y := by
  cases o with
  | none => cases h
  | some a => exact ⟨a, rfl, h⟩
def ocons {β : Type} (l : List (A T)) (f : A T → List (A T) → Option β) : Option β := let _ := @laws_FnTitle; List.rec (motive := fun _ => Option β) none (fun a r _ => f a r) l
theorem ocons_some {β : Type} {l : List (A T)} {f : A T → List (A T) → Option β} {y : β} (h : ocons l f = some y) : ∃ a r, l = a :: r ∧ f a r = some y := by
  cases l with
  | nil => cases h
  | cons a r => exact ⟨a, r, rfl, h⟩
def onil {β : Type} (l : List (A T)) (x : Option β) : Option β := let _ := @laws_FnTitle; List.rec (motive := fun _ => Option β) x (fun _ _ _ => none) l
theorem onil_some {β : Type} {l : List (A T)} {x : Option β} {y : β} (h : onil l x = some y) : l = [] ∧ x = some y := by
  cases l with
  | nil => exact ⟨rfl, h⟩
  | cons a r => cases h
def laws_big_dec (res : Res T) : Option Bool := match res.rets, res.outs with
  | [a0], [] => (retV (T := T) 4 a0).bind fun r0 => some (r0)
  | _, _ => none
def laws_big_enc (y : Bool) : Res T := ⟨[vR T 4 y], []⟩
theorem laws_big_de (res : Res T) (y : Bool) (h : laws_big_dec res = some y) : res = laws_big_enc y := by
  obtain ⟨rets, outs⟩ := res
  unfold laws_big_dec at h
  dsimp only at h
  split at h
  · obtain ⟨r0, h0, h⟩ := Option.bind_eq_some_iff.1 h
    cases h
    rw [retV_eq ok h0]
    rfl
  · cases h
def spec_l1New_dec (res : Res T) : Option Sl1Cur := match res.rets, res.outs with
  | [a0], [] => (retP (T := T) 184 a0).bind fun r0 => some (r0)
  | _, _ => none
def spec_l1New_enc (y : Sl1Cur) : Res T := ⟨[.ptr 184 y], []⟩
theorem spec_l1New_de (res : Res T) (y : Sl1Cur) (h : spec_l1New_dec res = some y) : res = spec_l1New_enc y := by
  obtain ⟨rets, outs⟩ := res
  unfold spec_l1New_dec at h
  dsimp only at h
  split at h
  · obtain ⟨r0, h0, h⟩ := Option.bind_eq_some_iff.1 h
    cases h
    rw [retP_eq h0]
    rfl
  · cases h
def spec_l1Byte_dec (res : Res T) : Option (Int × Sl1Cur) := match res.rets, res.outs with
  | [a0], [b0] => (retV (T := T) 3 a0).bind fun r0 => (outV (T := T) 184 b0).bind fun r1 => some (r0, r1)
  | _, _ => none
def spec_l1Byte_enc (y : Int × Sl1Cur) : Res T := ⟨[vR T 3 y.1], [.var 184 y.2]⟩
theorem spec_l1Byte_de (res : Res T) (y : Int × Sl1Cur) (h : spec_l1Byte_dec res = some y) : res = spec_l1Byte_enc y := by
  obtain ⟨rets, outs⟩ := res
  unfold spec_l1Byte_dec at h
  dsimp only at h
  split at h
  · obtain ⟨r0, h0, h⟩ := Option.bind_eq_some_iff.1 h
    obtain ⟨r1, h1, h⟩ := Option.bind_eq_some_iff.1 h
    cases h
    rw [retV_eq ok h0, outV_eq h1]
    rfl
  · cases h
def spec_l1Below_dec (res : Res T) : Option (Int × Sl1Cur) := match res.rets, res.outs with
  | [a0], [b0] => (retV (T := T) 3 a0).bind fun r0 => (outV (T := T) 184 b0).bind fun r1 => some (r0, r1)
  | _, _ => none
def spec_l1Below_enc (y : Int × Sl1Cur) : Res T := ⟨[vR T 3 y.1], [.var 184 y.2]⟩
theorem spec_l1Below_de (res : Res T) (y : Int × Sl1Cur) (h : spec_l1Below_dec res = some y) : res = spec_l1Below_enc y := by
  obtain ⟨rets, outs⟩ := res
  unfold spec_l1Below_dec at h
  dsimp only at h
  split at h
  · obtain ⟨r0, h0, h⟩ := Option.bind_eq_some_iff.1 h
    obtain ⟨r1, h1, h⟩ := Option.bind_eq_some_iff.1 h
    cases h
    rw [retV_eq ok h0, outV_eq h1]
    rfl
  · cases h
def spec_l1Pick_dec (res : Res T) : Option (ByteArray × Sl1Cur) := match res.rets, res.outs with
  | [a0], [b0] => (retV (T := T) 9 a0).bind fun r0 => (outV (T := T) 184 b0).bind fun r1 => some (r0, r1)
  | _, _ => none
def spec_l1Pick_enc (y : ByteArray × Sl1Cur) : Res T := ⟨[vR T 9 y.1], [.var 184 y.2]⟩
theorem spec_l1Pick_de (res : Res T) (y : ByteArray × Sl1Cur) (h : spec_l1Pick_dec res = some y) : res = spec_l1Pick_enc y := by
  obtain ⟨rets, outs⟩ := res
  unfold spec_l1Pick_dec at h
  dsimp only at h
  split at h
  · obtain ⟨r0, h0, h⟩ := Option.bind_eq_some_iff.1 h
    obtain ⟨r1, h1, h⟩ := Option.bind_eq_some_iff.1 h
    cases h
    rw [retV_eq ok h0, outV_eq h1]
    rfl
  · cases h
def spec_l14Who_dec (res : Res T) : Option (ByteArray × Sl1Cur) := match res.rets, res.outs with
  | [a0], [b0] => (retV (T := T) 9 a0).bind fun r0 => (outV (T := T) 184 b0).bind fun r1 => some (r0, r1)
  | _, _ => none
def spec_l14Who_enc (y : ByteArray × Sl1Cur) : Res T := ⟨[vR T 9 y.1], [.var 184 y.2]⟩
theorem spec_l14Who_de (res : Res T) (y : ByteArray × Sl1Cur) (h : spec_l14Who_dec res = some y) : res = spec_l14Who_enc y := by
  obtain ⟨rets, outs⟩ := res
  unfold spec_l14Who_dec at h
  dsimp only at h
  split at h
  · obtain ⟨r0, h0, h⟩ := Option.bind_eq_some_iff.1 h
    obtain ⟨r1, h1, h⟩ := Option.bind_eq_some_iff.1 h
    cases h
    rw [retV_eq ok h0, outV_eq h1]
    rfl
  · cases h
def spec_l1Once_dec (res : Res T) : Option (Bool × Sl1Cur) := match res.rets, res.outs with
  | [a0], [b0] => (retV (T := T) 4 a0).bind fun r0 => (outV (T := T) 184 b0).bind fun r1 => some (r0, r1)
  | _, _ => none
def spec_l1Once_enc (y : Bool × Sl1Cur) : Res T := ⟨[vR T 4 y.1], [.var 184 y.2]⟩
theorem spec_l1Once_de (res : Res T) (y : Bool × Sl1Cur) (h : spec_l1Once_dec res = some y) : res = spec_l1Once_enc y := by
  obtain ⟨rets, outs⟩ := res
  unfold spec_l1Once_dec at h
  dsimp only at h
  split at h
  · obtain ⟨r0, h0, h⟩ := Option.bind_eq_some_iff.1 h
    obtain ⟨r1, h1, h⟩ := Option.bind_eq_some_iff.1 h
    cases h
    rw [retV_eq ok h0, outV_eq h1]
    rfl
  · cases h
def spec_l1PickInt_dec (res : Res T) : Option (Int × Sl1Cur) := match res.rets, res.outs with
  | [a0], [b0] => (retV (T := T) 3 a0).bind fun r0 => (outV (T := T) 184 b0).bind fun r1 => some (r0, r1)
  | _, _ => none
def spec_l1PickInt_enc (y : Int × Sl1Cur) : Res T := ⟨[vR T 3 y.1], [.var 184 y.2]⟩
theorem spec_l1PickInt_de (res : Res T) (y : Int × Sl1Cur) (h : spec_l1PickInt_dec res = some y) : res = spec_l1PickInt_enc y := by
  obtain ⟨rets, outs⟩ := res
  unfold spec_l1PickInt_dec at h
  dsimp only at h
  split at h
  · obtain ⟨r0, h0, h⟩ := Option.bind_eq_some_iff.1 h
    obtain ⟨r1, h1, h⟩ := Option.bind_eq_some_iff.1 h
    cases h
    rw [retV_eq ok h0, outV_eq h1]
    rfl
  · cases h
def spec_l14DrawOp_dec (res : Res T) : Option (SBillOp × Sl1Cur) := match res.rets, res.outs with
  | [a0], [b0] => (retV (T := T) 72 a0).bind fun r0 => (outV (T := T) 184 b0).bind fun r1 => some (r0, r1)
  | _, _ => none
def spec_l14DrawOp_enc (y : SBillOp × Sl1Cur) : Res T := ⟨[vR T 72 y.1], [.var 184 y.2]⟩
theorem spec_l14DrawOp_de (res : Res T) (y : SBillOp × Sl1Cur) (h : spec_l14DrawOp_dec res = some y) : res = spec_l14DrawOp_enc y := by
  obtain ⟨rets, outs⟩ := res
  unfold spec_l14DrawOp_dec at h
  dsimp only at h
  split at h
  · obtain ⟨r0, h0, h⟩ := Option.bind_eq_some_iff.1 h
    obtain ⟨r1, h1, h⟩ := Option.bind_eq_some_iff.1 h
    cases h
    rw [retV_eq ok h0, outV_eq h1]
    rfl
  · cases h
def spec_l14Copy_dec (res : Res T) : Option SBook := match res.rets, res.outs with
  | [a0], [] => (retV (T := T) 68 a0).bind fun r0 => some (r0)
  | _, _ => none
def spec_l14Copy_enc (y : SBook) : Res T := ⟨[vR T 68 y], []⟩
theorem spec_l14Copy_de (res : Res T) (y : SBook) (h : spec_l14Copy_dec res = some y) : res = spec_l14Copy_enc y := by
  obtain ⟨rets, outs⟩ := res
  unfold spec_l14Copy_dec at h
  dsimp only at h
  split at h
  · obtain ⟨r0, h0, h⟩ := Option.bind_eq_some_iff.1 h
    cases h
    rw [retV_eq ok h0]
    rfl
  · cases h
def spec_l1In_dec (res : Res T) : Option Bool := match res.rets, res.outs with
  | [a0], [] => (retV (T := T) 4 a0).bind fun r0 => some (r0)
  | _, _ => none
def spec_l1In_enc (y : Bool) : Res T := ⟨[vR T 4 y], []⟩
theorem spec_l1In_de (res : Res T) (y : Bool) (h : spec_l1In_dec res = some y) : res = spec_l1In_enc y := by
  obtain ⟨rets, outs⟩ := res
  unfold spec_l1In_dec at h
  dsimp only at h
  split at h
  · obtain ⟨r0, h0, h⟩ := Option.bind_eq_some_iff.1 h
    cases h
    rw [retV_eq ok h0]
    rfl
  · cases h
def spec_l1Name_dec (res : Res T) : Option Bool := match res.rets, res.outs with
  | [a0], [] => (retV (T := T) 4 a0).bind fun r0 => some (r0)
  | _, _ => none
def spec_l1Name_enc (y : Bool) : Res T := ⟨[vR T 4 y], []⟩
theorem spec_l1Name_de (res : Res T) (y : Bool) (h : spec_l1Name_dec res = some y) : res = spec_l1Name_enc y := by
  obtain ⟨rets, outs⟩ := res
  unfold spec_l1Name_dec at h
  dsimp only at h
  split at h
  · obtain ⟨r0, h0, h⟩ := Option.bind_eq_some_iff.1 h
    cases h
    rw [retV_eq ok h0]
    rfl
  · cases h
def spec_l14Find_dec (res : Res T) : Option Int := match res.rets, res.outs with
  | [a0], [] => (retV (T := T) 3 a0).bind fun r0 => some (r0)
  | _, _ => none
def spec_l14Find_enc (y : Int) : Res T := ⟨[vR T 3 y], []⟩
theorem spec_l14Find_de (res : Res T) (y : Int) (h : spec_l14Find_dec res = some y) : res = spec_l14Find_enc y := by
  obtain ⟨rets, outs⟩ := res
  unfold spec_l14Find_dec at h
  dsimp only at h
  split at h
  · obtain ⟨r0, h0, h⟩ := Option.bind_eq_some_iff.1 h
    cases h
    rw [retV_eq ok h0]
    rfl
  · cases h
def spec_BookOk_dec (res : Res T) : Option Bool := match res.rets, res.outs with
  | [a0], [] => (retV (T := T) 4 a0).bind fun r0 => some (r0)
  | _, _ => none
def spec_BookOk_enc (y : Bool) : Res T := ⟨[vR T 4 y], []⟩
theorem spec_BookOk_de (res : Res T) (y : Bool) (h : spec_BookOk_dec res = some y) : res = spec_BookOk_enc y := by
  obtain ⟨rets, outs⟩ := res
  unfold spec_BookOk_dec at h
  dsimp only at h
  split at h
  · obtain ⟨r0, h0, h⟩ := Option.bind_eq_some_iff.1 h
    cases h
    rw [retV_eq ok h0]
    rfl
  · cases h
def spec_l14Op_dec (res : Res T) : Option Bool := match res.rets, res.outs with
  | [a0], [] => (retV (T := T) 4 a0).bind fun r0 => some (r0)
  | _, _ => none
def spec_l14Op_enc (y : Bool) : Res T := ⟨[vR T 4 y], []⟩
theorem spec_l14Op_de (res : Res T) (y : Bool) (h : spec_l14Op_dec res = some y) : res = spec_l14Op_enc y := by
  obtain ⟨rets, outs⟩ := res
  unfold spec_l14Op_dec at h
  dsimp only at h
  split at h
  · obtain ⟨r0, h0, h⟩ := Option.bind_eq_some_iff.1 h
    cases h
    rw [retV_eq ok h0]
    rfl
  · cases h
def spec_l14Made_dec (res : Res T) : Option (List ByteArray) := match res.rets, res.outs with
  | [a0], [] => (retV (T := T) 82 a0).bind fun r0 => some (r0)
  | _, _ => none
def spec_l14Made_enc (y : List ByteArray) : Res T := ⟨[vR T 82 y], []⟩
theorem spec_l14Made_de (res : Res T) (y : List ByteArray) (h : spec_l14Made_dec res = some y) : res = spec_l14Made_enc y := by
  obtain ⟨rets, outs⟩ := res
  unfold spec_l14Made_dec at h
  dsimp only at h
  split at h
  · obtain ⟨r0, h0, h⟩ := Option.bind_eq_some_iff.1 h
    cases h
    rw [retV_eq ok h0]
    rfl
  · cases h
def spec_l9Has_dec (res : Res T) : Option Bool := match res.rets, res.outs with
  | [a0], [] => (retV (T := T) 4 a0).bind fun r0 => some (r0)
  | _, _ => none
def spec_l9Has_enc (y : Bool) : Res T := ⟨[vR T 4 y], []⟩
theorem spec_l9Has_de (res : Res T) (y : Bool) (h : spec_l9Has_dec res = some y) : res = spec_l9Has_enc y := by
  obtain ⟨rets, outs⟩ := res
  unfold spec_l9Has_dec at h
  dsimp only at h
  split at h
  · obtain ⟨r0, h0, h⟩ := Option.bind_eq_some_iff.1 h
    cases h
    rw [retV_eq ok h0]
    rfl
  · cases h
def spec_l14Holds_dec (res : Res T) : Option Int := match res.rets, res.outs with
  | [a0], [] => (retV (T := T) 3 a0).bind fun r0 => some (r0)
  | _, _ => none
def spec_l14Holds_enc (y : Int) : Res T := ⟨[vR T 3 y], []⟩
theorem spec_l14Holds_de (res : Res T) (y : Int) (h : spec_l14Holds_dec res = some y) : res = spec_l14Holds_enc y := by
  obtain ⟨rets, outs⟩ := res
  unfold spec_l14Holds_dec at h
  dsimp only at h
  split at h
  · obtain ⟨r0, h0, h⟩ := Option.bind_eq_some_iff.1 h
    cases h
    rw [retV_eq ok h0]
    rfl
  · cases h
def spec_l14Do_dec (res : Res T) : Option (SBill × Bool) := match res.rets, res.outs with
  | [a0, a1], [] => (retV (T := T) 84 a0).bind fun r0 => (retV (T := T) 4 a1).bind fun r1 => some (r0, r1)
  | _, _ => none
def spec_l14Do_enc (y : SBill × Bool) : Res T := ⟨[vR T 84 y.1, vR T 4 y.2], []⟩
theorem spec_l14Do_de (res : Res T) (y : SBill × Bool) (h : spec_l14Do_dec res = some y) : res = spec_l14Do_enc y := by
  obtain ⟨rets, outs⟩ := res
  unfold spec_l14Do_dec at h
  dsimp only at h
  split at h
  · obtain ⟨r0, h0, h⟩ := Option.bind_eq_some_iff.1 h
    obtain ⟨r1, h1, h⟩ := Option.bind_eq_some_iff.1 h
    cases h
    rw [retV_eq ok h0, retV_eq ok h1]
    rfl
  · cases h
def spec_DoBill_dec (res : Res T) : Option (SBook × Int) := match res.rets, res.outs with
  | [a0, a1], [] => (retV (T := T) 68 a0).bind fun r0 => (retV (T := T) 3 a1).bind fun r1 => some (r0, r1)
  | _, _ => none
def spec_DoBill_enc (y : SBook × Int) : Res T := ⟨[vR T 68 y.1, vR T 3 y.2], []⟩
theorem spec_DoBill_de (res : Res T) (y : SBook × Int) (h : spec_DoBill_dec res = some y) : res = spec_DoBill_enc y := by
  obtain ⟨rets, outs⟩ := res
  unfold spec_DoBill_dec at h
  dsimp only at h
  split at h
  · obtain ⟨r0, h0, h⟩ := Option.bind_eq_some_iff.1 h
    obtain ⟨r1, h1, h⟩ := Option.bind_eq_some_iff.1 h
    cases h
    rw [retV_eq ok h0, retV_eq ok h1]
    rfl
  · cases h
def spec_l14Draw_dec (res : Res T) : Option (SBook × Sl1Cur) := match res.rets, res.outs with
  | [a0], [b0] => (retV (T := T) 68 a0).bind fun r0 => (outV (T := T) 184 b0).bind fun r1 => some (r0, r1)
  | _, _ => none
def spec_l14Draw_enc (y : SBook × Sl1Cur) : Res T := ⟨[vR T 68 y.1], [.var 184 y.2]⟩
theorem spec_l14Draw_de (res : Res T) (y : SBook × Sl1Cur) (h : spec_l14Draw_dec res = some y) : res = spec_l14Draw_enc y := by
  obtain ⟨rets, outs⟩ := res
  unfold spec_l14Draw_dec at h
  dsimp only at h
  split at h
  · obtain ⟨r0, h0, h⟩ := Option.bind_eq_some_iff.1 h
    obtain ⟨r1, h1, h⟩ := Option.bind_eq_some_iff.1 h
    cases h
    rw [retV_eq ok h0, outV_eq h1]
    rfl
  · cases h
def spec_DrawBook_dec (res : Res T) : Option (SBook × List SBillOp) := match res.rets, res.outs with
  | [a0, a1], [] => (retV (T := T) 68 a0).bind fun r0 => (retV (T := T) 77 a1).bind fun r1 => some (r0, r1)
  | _, _ => none
def spec_DrawBook_enc (y : SBook × List SBillOp) : Res T := ⟨[vR T 68 y.1, vR T 77 y.2], []⟩
theorem spec_DrawBook_de (res : Res T) (y : SBook × List SBillOp) (h : spec_DrawBook_dec res = some y) : res = spec_DrawBook_enc y := by
  obtain ⟨rets, outs⟩ := res
  unfold spec_DrawBook_dec at h
  dsimp only at h
  split at h
  · obtain ⟨r0, h0, h⟩ := Option.bind_eq_some_iff.1 h
    obtain ⟨r1, h1, h⟩ := Option.bind_eq_some_iff.1 h
    cases h
    rw [retV_eq ok h0, retV_eq ok h1]
    rfl
  · cases h
def impl_own_impl_Bill_dec (res : Res T) : Option (List SBill) := match res.rets, res.outs with
  | [a0], [] => (retV (T := T) 66 a0).bind fun r0 => some (r0)
  | _, _ => none
def impl_own_impl_Bill_enc (y : List SBill) : Res T := ⟨[vR T 66 y], []⟩
theorem impl_own_impl_Bill_de (res : Res T) (y : List SBill) (h : impl_own_impl_Bill_dec res = some y) : res = impl_own_impl_Bill_enc y := by
  obtain ⟨rets, outs⟩ := res
  unfold impl_own_impl_Bill_dec at h
  dsimp only at h
  split at h
  · obtain ⟨r0, h0, h⟩ := Option.bind_eq_some_iff.1 h
    cases h
    rw [retV_eq ok h0]
    rfl
  · cases h
def impl_own_string_dec (res : Res T) : Option (List ByteArray) := match res.rets, res.outs with
  | [a0], [] => (retV (T := T) 82 a0).bind fun r0 => some (r0)
  | _, _ => none
def impl_own_string_enc (y : List ByteArray) : Res T := ⟨[vR T 82 y], []⟩
theorem impl_own_string_de (res : Res T) (y : List ByteArray) (h : impl_own_string_dec res = some y) : res = impl_own_string_enc y := by
  obtain ⟨rets, outs⟩ := res
  unfold impl_own_string_dec at h
  dsimp only at h
  split at h
  · obtain ⟨r0, h0, h⟩ := Option.bind_eq_some_iff.1 h
    cases h
    rw [retV_eq ok h0]
    rfl
  · cases h
def impl_own_int_dec (res : Res T) : Option (List Int) := match res.rets, res.outs with
  | [a0], [] => (retV (T := T) 24 a0).bind fun r0 => some (r0)
  | _, _ => none
def impl_own_int_enc (y : List Int) : Res T := ⟨[vR T 24 y], []⟩
theorem impl_own_int_de (res : Res T) (y : List Int) (h : impl_own_int_dec res = some y) : res = impl_own_int_enc y := by
  obtain ⟨rets, outs⟩ := res
  unfold impl_own_int_dec at h
  dsimp only at h
  split at h
  · obtain ⟨r0, h0, h⟩ := Option.bind_eq_some_iff.1 h
    cases h
    rw [retV_eq ok h0]
    rfl
  · cases h
def impl_Book_own_dec (res : Res T) : Option SBook := match res.rets, res.outs with
  | [a0], [] => (retV (T := T) 68 a0).bind fun r0 => some (r0)
  | _, _ => none
def impl_Book_own_enc (y : SBook) : Res T := ⟨[vR T 68 y], []⟩
theorem impl_Book_own_de (res : Res T) (y : SBook) (h : impl_Book_own_dec res = some y) : res = impl_Book_own_enc y := by
  obtain ⟨rets, outs⟩ := res
  unfold impl_Book_own_dec at h
  dsimp only at h
  split at h
  · obtain ⟨r0, h0, h⟩ := Option.bind_eq_some_iff.1 h
    cases h
    rw [retV_eq ok h0]
    rfl
  · cases h
def impl_nameOk_dec (res : Res T) : Option Bool := match res.rets, res.outs with
  | [a0], [] => (retV (T := T) 4 a0).bind fun r0 => some (r0)
  | _, _ => none
def impl_nameOk_enc (y : Bool) : Res T := ⟨[vR T 4 y], []⟩
theorem impl_nameOk_de (res : Res T) (y : Bool) (h : impl_nameOk_dec res = some y) : res = impl_nameOk_enc y := by
  obtain ⟨rets, outs⟩ := res
  unfold impl_nameOk_dec at h
  dsimp only at h
  split at h
  · obtain ⟨r0, h0, h⟩ := Option.bind_eq_some_iff.1 h
    cases h
    rw [retV_eq ok h0]
    rfl
  · cases h
def impl_in_dec (res : Res T) : Option Bool := match res.rets, res.outs with
  | [a0], [] => (retV (T := T) 4 a0).bind fun r0 => some (r0)
  | _, _ => none
def impl_in_enc (y : Bool) : Res T := ⟨[vR T 4 y], []⟩
theorem impl_in_de (res : Res T) (y : Bool) (h : impl_in_dec res = some y) : res = impl_in_enc y := by
  obtain ⟨rets, outs⟩ := res
  unfold impl_in_dec at h
  dsimp only at h
  split at h
  · obtain ⟨r0, h0, h⟩ := Option.bind_eq_some_iff.1 h
    cases h
    rw [retV_eq ok h0]
    rfl
  · cases h
def impl_idRight_dec (res : Res T) : Option Bool := match res.rets, res.outs with
  | [a0], [] => (retV (T := T) 4 a0).bind fun r0 => some (r0)
  | _, _ => none
def impl_idRight_enc (y : Bool) : Res T := ⟨[vR T 4 y], []⟩
theorem impl_idRight_de (res : Res T) (y : Bool) (h : impl_idRight_dec res = some y) : res = impl_idRight_enc y := by
  obtain ⟨rets, outs⟩ := res
  unfold impl_idRight_dec at h
  dsimp only at h
  split at h
  · obtain ⟨r0, h0, h⟩ := Option.bind_eq_some_iff.1 h
    cases h
    rw [retV_eq ok h0]
    rfl
  · cases h
def impl_emptyOrName_dec (res : Res T) : Option Bool := match res.rets, res.outs with
  | [a0], [] => (retV (T := T) 4 a0).bind fun r0 => some (r0)
  | _, _ => none
def impl_emptyOrName_enc (y : Bool) : Res T := ⟨[vR T 4 y], []⟩
theorem impl_emptyOrName_de (res : Res T) (y : Bool) (h : impl_emptyOrName_dec res = some y) : res = impl_emptyOrName_enc y := by
  obtain ⟨rets, outs⟩ := res
  unfold impl_emptyOrName_dec at h
  dsimp only at h
  split at h
  · obtain ⟨r0, h0, h⟩ := Option.bind_eq_some_iff.1 h
    cases h
    rw [retV_eq ok h0]
    rfl
  · cases h
def impl_BookOk_1_dec (res : Res T) : Option Bool := match res.rets, res.outs with
  | [a0], [] => (retV (T := T) 4 a0).bind fun r0 => some (r0)
  | _, _ => none
def impl_BookOk_1_enc (y : Bool) : Res T := ⟨[vR T 4 y], []⟩
theorem impl_BookOk_1_de (res : Res T) (y : Bool) (h : impl_BookOk_1_dec res = some y) : res = impl_BookOk_1_enc y := by
  obtain ⟨rets, outs⟩ := res
  unfold impl_BookOk_1_dec at h
  dsimp only at h
  split at h
  · obtain ⟨r0, h0, h⟩ := Option.bind_eq_some_iff.1 h
    cases h
    rw [retV_eq ok h0]
    rfl
  · cases h
def slices_IndexFunc_string_string__impl_BookOk_1_dec (res : Res T) : Option Int := match res.rets, res.outs with
  | [a0], [] => (retV (T := T) 3 a0).bind fun r0 => some (r0)
  | _, _ => none
def slices_IndexFunc_string_string__impl_BookOk_1_enc (y : Int) : Res T := ⟨[vR T 3 y], []⟩
theorem slices_IndexFunc_string_string__impl_BookOk_1_de (res : Res T) (y : Int) (h : slices_IndexFunc_string_string__impl_BookOk_1_dec res = some y) : res = slices_IndexFunc_string_string__impl_BookOk_1_enc y := by
  obtain ⟨rets, outs⟩ := res
  unfold slices_IndexFunc_string_string__impl_BookOk_1_dec at h
  dsimp only at h
  split at h
  · obtain ⟨r0, h0, h⟩ := Option.bind_eq_some_iff.1 h
    cases h
    rw [retV_eq ok h0]
    rfl
  · cases h
def slices_ContainsFunc_string_string__impl_BookOk_1_dec (res : Res T) : Option Bool := match res.rets, res.outs with
  | [a0], [] => (retV (T := T) 4 a0).bind fun r0 => some (r0)
  | _, _ => none
def slices_ContainsFunc_string_string__impl_BookOk_1_enc (y : Bool) : Res T := ⟨[vR T 4 y], []⟩
theorem slices_ContainsFunc_string_string__impl_BookOk_1_de (res : Res T) (y : Bool) (h : slices_ContainsFunc_string_string__impl_BookOk_1_dec res = some y) : res = slices_ContainsFunc_string_string__impl_BookOk_1_enc y := by
  obtain ⟨rets, outs⟩ := res
  unfold slices_ContainsFunc_string_string__impl_BookOk_1_dec at h
  dsimp only at h
  split at h
  · obtain ⟨r0, h0, h⟩ := Option.bind_eq_some_iff.1 h
    cases h
    rw [retV_eq ok h0]
    rfl
  · cases h
def impl_BookOk_dec (res : Res T) : Option Bool := match res.rets, res.outs with
  | [a0], [] => (retV (T := T) 4 a0).bind fun r0 => some (r0)
  | _, _ => none
def impl_BookOk_enc (y : Bool) : Res T := ⟨[vR T 4 y], []⟩
theorem impl_BookOk_de (res : Res T) (y : Bool) (h : impl_BookOk_dec res = some y) : res = impl_BookOk_enc y := by
  obtain ⟨rets, outs⟩ := res
  unfold impl_BookOk_dec at h
  dsimp only at h
  split at h
  · obtain ⟨r0, h0, h⟩ := Option.bind_eq_some_iff.1 h
    cases h
    rw [retV_eq ok h0]
    rfl
  · cases h
def impl_Book_at_1_dec (res : Res T) : Option Bool := match res.rets, res.outs with
  | [a0], [] => (retV (T := T) 4 a0).bind fun r0 => some (r0)
  | _, _ => none
def impl_Book_at_1_enc (y : Bool) : Res T := ⟨[vR T 4 y], []⟩
theorem impl_Book_at_1_de (res : Res T) (y : Bool) (h : impl_Book_at_1_dec res = some y) : res = impl_Book_at_1_enc y := by
  obtain ⟨rets, outs⟩ := res
  unfold impl_Book_at_1_dec at h
  dsimp only at h
  split at h
  · obtain ⟨r0, h0, h⟩ := Option.bind_eq_some_iff.1 h
    cases h
    rw [retV_eq ok h0]
    rfl
  · cases h
def slices_IndexFunc_impl_Bill_impl_Bill__impl_Book_at_1_dec (res : Res T) : Option Int := match res.rets, res.outs with
  | [a0], [] => (retV (T := T) 3 a0).bind fun r0 => some (r0)
  | _, _ => none
def slices_IndexFunc_impl_Bill_impl_Bill__impl_Book_at_1_enc (y : Int) : Res T := ⟨[vR T 3 y], []⟩
theorem slices_IndexFunc_impl_Bill_impl_Bill__impl_Book_at_1_de (res : Res T) (y : Int) (h : slices_IndexFunc_impl_Bill_impl_Bill__impl_Book_at_1_dec res = some y) : res = slices_IndexFunc_impl_Bill_impl_Bill__impl_Book_at_1_enc y := by
  obtain ⟨rets, outs⟩ := res
  unfold slices_IndexFunc_impl_Bill_impl_Bill__impl_Book_at_1_dec at h
  dsimp only at h
  split at h
  · obtain ⟨r0, h0, h⟩ := Option.bind_eq_some_iff.1 h
    cases h
    rw [retV_eq ok h0]
    rfl
  · cases h
def impl_Book_at_dec (res : Res T) : Option Int := match res.rets, res.outs with
  | [a0], [] => (retV (T := T) 3 a0).bind fun r0 => some (r0)
  | _, _ => none
def impl_Book_at_enc (y : Int) : Res T := ⟨[vR T 3 y], []⟩
theorem impl_Book_at_de (res : Res T) (y : Int) (h : impl_Book_at_dec res = some y) : res = impl_Book_at_enc y := by
  obtain ⟨rets, outs⟩ := res
  unfold impl_Book_at_dec at h
  dsimp only at h
  split at h
  · obtain ⟨r0, h0, h⟩ := Option.bind_eq_some_iff.1 h
    cases h
    rw [retV_eq ok h0]
    rfl
  · cases h
def impl_heldBy_dec (res : Res T) : Option (List ByteArray) := match res.rets, res.outs with
  | [a0], [] => (retV (T := T) 82 a0).bind fun r0 => some (r0)
  | _, _ => none
def impl_heldBy_enc (y : List ByteArray) : Res T := ⟨[vR T 82 y], []⟩
theorem impl_heldBy_de (res : Res T) (y : List ByteArray) (h : impl_heldBy_dec res = some y) : res = impl_heldBy_enc y := by
  obtain ⟨rets, outs⟩ := res
  unfold impl_heldBy_dec at h
  dsimp only at h
  split at h
  · obtain ⟨r0, h0, h⟩ := Option.bind_eq_some_iff.1 h
    cases h
    rw [retV_eq ok h0]
    rfl
  · cases h
def impl_DoBill_1_dec (res : Res T) : Option Int := match res.rets, res.outs with
  | [a0], [] => (retV (T := T) 3 a0).bind fun r0 => some (r0)
  | _, _ => none
def impl_DoBill_1_enc (y : Int) : Res T := ⟨[vR T 3 y], []⟩
theorem impl_DoBill_1_de (res : Res T) (y : Int) (h : impl_DoBill_1_dec res = some y) : res = impl_DoBill_1_enc y := by
  obtain ⟨rets, outs⟩ := res
  unfold impl_DoBill_1_dec at h
  dsimp only at h
  split at h
  · obtain ⟨r0, h0, h⟩ := Option.bind_eq_some_iff.1 h
    cases h
    rw [retV_eq ok h0]
    rfl
  · cases h
def slices_SortFunc_impl_Bill_impl_Bill__impl_DoBill_1_dec (res : Res T) : Option (List SBill) := match res.rets, res.outs with
  | [], [b0] => (outS (T := T) 84 b0).bind fun r0 => some (r0)
  | _, _ => none
def slices_SortFunc_impl_Bill_impl_Bill__impl_DoBill_1_enc (y : List SBill) : Res T := ⟨[], [.sl 84 y]⟩
theorem slices_SortFunc_impl_Bill_impl_Bill__impl_DoBill_1_de (res : Res T) (y : List SBill) (h : slices_SortFunc_impl_Bill_impl_Bill__impl_DoBill_1_dec res = some y) : res = slices_SortFunc_impl_Bill_impl_Bill__impl_DoBill_1_enc y := by
  obtain ⟨rets, outs⟩ := res
  unfold slices_SortFunc_impl_Bill_impl_Bill__impl_DoBill_1_dec at h
  dsimp only at h
  split at h
  · obtain ⟨r0, h0, h⟩ := Option.bind_eq_some_iff.1 h
    cases h
    rw [outS_eq h0]
    rfl
  · cases h
def slices_Index_int_int_dec (res : Res T) : Option Int := match res.rets, res.outs with
  | [a0], [] => (retV (T := T) 3 a0).bind fun r0 => some (r0)
  | _, _ => none
def slices_Index_int_int_enc (y : Int) : Res T := ⟨[vR T 3 y], []⟩
theorem slices_Index_int_int_de (res : Res T) (y : Int) (h : slices_Index_int_int_dec res = some y) : res = slices_Index_int_int_enc y := by
  obtain ⟨rets, outs⟩ := res
  unfold slices_Index_int_int_dec at h
  dsimp only at h
  split at h
  · obtain ⟨r0, h0, h⟩ := Option.bind_eq_some_iff.1 h
    cases h
    rw [retV_eq ok h0]
    rfl
  · cases h
def slices_Contains_int_int_dec (res : Res T) : Option Bool := match res.rets, res.outs with
  | [a0], [] => (retV (T := T) 4 a0).bind fun r0 => some (r0)
  | _, _ => none
def slices_Contains_int_int_enc (y : Bool) : Res T := ⟨[vR T 4 y], []⟩
theorem slices_Contains_int_int_de (res : Res T) (y : Bool) (h : slices_Contains_int_int_dec res = some y) : res = slices_Contains_int_int_enc y := by
  obtain ⟨rets, outs⟩ := res
  unfold slices_Contains_int_int_dec at h
  dsimp only at h
  split at h
  · obtain ⟨r0, h0, h⟩ := Option.bind_eq_some_iff.1 h
    cases h
    rw [retV_eq ok h0]
    rfl
  · cases h
def slices_Index_string_string_dec (res : Res T) : Option Int := match res.rets, res.outs with
  | [a0], [] => (retV (T := T) 3 a0).bind fun r0 => some (r0)
  | _, _ => none
def slices_Index_string_string_enc (y : Int) : Res T := ⟨[vR T 3 y], []⟩
theorem slices_Index_string_string_de (res : Res T) (y : Int) (h : slices_Index_string_string_dec res = some y) : res = slices_Index_string_string_enc y := by
  obtain ⟨rets, outs⟩ := res
  unfold slices_Index_string_string_dec at h
  dsimp only at h
  split at h
  · obtain ⟨r0, h0, h⟩ := Option.bind_eq_some_iff.1 h
    cases h
    rw [retV_eq ok h0]
    rfl
  · cases h
def slices_Contains_string_string_dec (res : Res T) : Option Bool := match res.rets, res.outs with
  | [a0], [] => (retV (T := T) 4 a0).bind fun r0 => some (r0)
  | _, _ => none
def slices_Contains_string_string_enc (y : Bool) : Res T := ⟨[vR T 4 y], []⟩
theorem slices_Contains_string_string_de (res : Res T) (y : Bool) (h : slices_Contains_string_string_dec res = some y) : res = slices_Contains_string_string_enc y := by
  obtain ⟨rets, outs⟩ := res
  unfold slices_Contains_string_string_dec at h
  dsimp only at h
  split at h
  · obtain ⟨r0, h0, h⟩ := Option.bind_eq_some_iff.1 h
    cases h
    rw [retV_eq ok h0]
    rfl
  · cases h
def slices_Sort_int_int_dec (res : Res T) : Option (List Int) := match res.rets, res.outs with
  | [], [b0] => (outS (T := T) 3 b0).bind fun r0 => some (r0)
  | _, _ => none
def slices_Sort_int_int_enc (y : List Int) : Res T := ⟨[], [.sl 3 y]⟩
theorem slices_Sort_int_int_de (res : Res T) (y : List Int) (h : slices_Sort_int_int_dec res = some y) : res = slices_Sort_int_int_enc y := by
  obtain ⟨rets, outs⟩ := res
  unfold slices_Sort_int_int_dec at h
  dsimp only at h
  split at h
  · obtain ⟨r0, h0, h⟩ := Option.bind_eq_some_iff.1 h
    cases h
    rw [outS_eq h0]
    rfl
  · cases h
def impl_DoBill_2_dec (res : Res T) : Option Bool := match res.rets, res.outs with
  | [a0], [] => (retV (T := T) 4 a0).bind fun r0 => some (r0)
  | _, _ => none
def impl_DoBill_2_enc (y : Bool) : Res T := ⟨[vR T 4 y], []⟩
theorem impl_DoBill_2_de (res : Res T) (y : Bool) (h : impl_DoBill_2_dec res = some y) : res = impl_DoBill_2_enc y := by
  obtain ⟨rets, outs⟩ := res
  unfold impl_DoBill_2_dec at h
  dsimp only at h
  split at h
  · obtain ⟨r0, h0, h⟩ := Option.bind_eq_some_iff.1 h
    cases h
    rw [retV_eq ok h0]
    rfl
  · cases h
def slices_IndexFunc_string_string__impl_DoBill_2_dec (res : Res T) : Option Int := match res.rets, res.outs with
  | [a0], [] => (retV (T := T) 3 a0).bind fun r0 => some (r0)
  | _, _ => none
def slices_IndexFunc_string_string__impl_DoBill_2_enc (y : Int) : Res T := ⟨[vR T 3 y], []⟩
theorem slices_IndexFunc_string_string__impl_DoBill_2_de (res : Res T) (y : Int) (h : slices_IndexFunc_string_string__impl_DoBill_2_dec res = some y) : res = slices_IndexFunc_string_string__impl_DoBill_2_enc y := by
  obtain ⟨rets, outs⟩ := res
  unfold slices_IndexFunc_string_string__impl_DoBill_2_dec at h
  dsimp only at h
  split at h
  · obtain ⟨r0, h0, h⟩ := Option.bind_eq_some_iff.1 h
    cases h
    rw [retV_eq ok h0]
    rfl
  · cases h
def slices_ContainsFunc_string_string__impl_DoBill_2_dec (res : Res T) : Option Bool := match res.rets, res.outs with
  | [a0], [] => (retV (T := T) 4 a0).bind fun r0 => some (r0)
  | _, _ => none
def slices_ContainsFunc_string_string__impl_DoBill_2_enc (y : Bool) : Res T := ⟨[vR T 4 y], []⟩
theorem slices_ContainsFunc_string_string__impl_DoBill_2_de (res : Res T) (y : Bool) (h : slices_ContainsFunc_string_string__impl_DoBill_2_dec res = some y) : res = slices_ContainsFunc_string_string__impl_DoBill_2_enc y := by
  obtain ⟨rets, outs⟩ := res
  unfold slices_ContainsFunc_string_string__impl_DoBill_2_dec at h
  dsimp only at h
  split at h
  · obtain ⟨r0, h0, h⟩ := Option.bind_eq_some_iff.1 h
    cases h
    rw [retV_eq ok h0]
    rfl
  · cases h
def impl_DoBill_dec (res : Res T) : Option (SBook × Int) := match res.rets, res.outs with
  | [a0, a1], [] => (retV (T := T) 68 a0).bind fun r0 => (retV (T := T) 3 a1).bind fun r1 => some (r0, r1)
  | _, _ => none
def impl_DoBill_enc (y : SBook × Int) : Res T := ⟨[vR T 68 y.1, vR T 3 y.2], []⟩
theorem impl_DoBill_de (res : Res T) (y : SBook × Int) (h : impl_DoBill_dec res = some y) : res = impl_DoBill_enc y := by
  obtain ⟨rets, outs⟩ := res
  unfold impl_DoBill_dec at h
  dsimp only at h
  split at h
  · obtain ⟨r0, h0, h⟩ := Option.bind_eq_some_iff.1 h
    obtain ⟨r1, h1, h⟩ := Option.bind_eq_some_iff.1 h
    cases h
    rw [retV_eq ok h0, retV_eq ok h1]
    rfl
  · cases h
def laws_sameInts_dec (res : Res T) : Option Bool := match res.rets, res.outs with
  | [a0], [] => (retV (T := T) 4 a0).bind fun r0 => some (r0)
  | _, _ => none
def laws_sameInts_enc (y : Bool) : Res T := ⟨[vR T 4 y], []⟩
theorem laws_sameInts_de (res : Res T) (y : Bool) (h : laws_sameInts_dec res = some y) : res = laws_sameInts_enc y := by
  obtain ⟨rets, outs⟩ := res
  unfold laws_sameInts_dec at h
  dsimp only at h
  split at h
  · obtain ⟨r0, h0, h⟩ := Option.bind_eq_some_iff.1 h
    cases h
    rw [retV_eq ok h0]
    rfl
  · cases h
def laws_within_dec (res : Res T) : Option Bool := match res.rets, res.outs with
  | [a0], [] => (retV (T := T) 4 a0).bind fun r0 => some (r0)
  | _, _ => none
def laws_within_enc (y : Bool) : Res T := ⟨[vR T 4 y], []⟩
theorem laws_within_de (res : Res T) (y : Bool) (h : laws_within_dec res = some y) : res = laws_within_enc y := by
  obtain ⟨rets, outs⟩ := res
  unfold laws_within_dec at h
  dsimp only at h
  split at h
  · obtain ⟨r0, h0, h⟩ := Option.bind_eq_some_iff.1 h
    cases h
    rw [retV_eq ok h0]
    rfl
  · cases h
def impl_TitleOf_dec (res : Res T) : Option (ByteArray × Bool) := match res.rets, res.outs with
  | [a0, a1], [] => (retV (T := T) 9 a0).bind fun r0 => (retV (T := T) 4 a1).bind fun r1 => some (r0, r1)
  | _, _ => none
def impl_TitleOf_enc (y : ByteArray × Bool) : Res T := ⟨[vR T 9 y.1, vR T 4 y.2], []⟩
theorem impl_TitleOf_de (res : Res T) (y : ByteArray × Bool) (h : impl_TitleOf_dec res = some y) : res = impl_TitleOf_enc y := by
  obtain ⟨rets, outs⟩ := res
  unfold impl_TitleOf_dec at h
  dsimp only at h
  split at h
  · obtain ⟨r0, h0, h⟩ := Option.bind_eq_some_iff.1 h
    obtain ⟨r1, h1, h⟩ := Option.bind_eq_some_iff.1 h
    cases h
    rw [retV_eq ok h0, retV_eq ok h1]
    rfl
  · cases h
def impl_RunBills_dec (res : Res T) : Option (SBook × List Int) := match res.rets, res.outs with
  | [a0, a1], [] => (retV (T := T) 68 a0).bind fun r0 => (retV (T := T) 24 a1).bind fun r1 => some (r0, r1)
  | _, _ => none
def impl_RunBills_enc (y : SBook × List Int) : Res T := ⟨[vR T 68 y.1, vR T 24 y.2], []⟩
theorem impl_RunBills_de (res : Res T) (y : SBook × List Int) (h : impl_RunBills_dec res = some y) : res = impl_RunBills_enc y := by
  obtain ⟨rets, outs⟩ := res
  unfold impl_RunBills_dec at h
  dsimp only at h
  split at h
  · obtain ⟨r0, h0, h⟩ := Option.bind_eq_some_iff.1 h
    obtain ⟨r1, h1, h⟩ := Option.bind_eq_some_iff.1 h
    cases h
    rw [retV_eq ok h0, retV_eq ok h1]
    rfl
  · cases h
def laws_FnTitle_dec (res : Res T) : Option Bool := match res.rets, res.outs with
  | [a0], [] => (retV (T := T) 4 a0).bind fun r0 => some (r0)
  | _, _ => none
def laws_FnTitle_enc (y : Bool) : Res T := ⟨[vR T 4 y], []⟩
theorem laws_FnTitle_de (res : Res T) (y : Bool) (h : laws_FnTitle_dec res = some y) : res = laws_FnTitle_enc y := by
  obtain ⟨rets, outs⟩ := res
  unfold laws_FnTitle_dec at h
  dsimp only at h
  split at h
  · obtain ⟨r0, h0, h⟩ := Option.bind_eq_some_iff.1 h
    cases h
    rw [retV_eq ok h0]
    rfl
  · cases h
def laws_big_D (n : Nat) (r0 : List (A T)) : Option Bool := ocons r0 fun a0 r1 => onil r1 (obind (argV (T := T) 34 a0) fun code0 => laws_big n code0)
def laws_big_ent (n : Nat) : Ent T := ⟨21, 0, [], Bool, laws_big_D n, laws_big_enc⟩
def spec_l1New_D (n : Nat) (r0 : List (A T)) : Option Sl1Cur := ocons r0 fun a0 r1 => onil r1 (obind (argV (T := T) 34 a0) fun code0 => spec_l1New n code0)
def spec_l1New_ent (n : Nat) : Ent T := ⟨82, 1, [], Sl1Cur, spec_l1New_D n, spec_l1New_enc⟩
def spec_l1Byte_D (n : Nat) (r0 : List (A T)) : Option (Int × Sl1Cur) := ocons r0 fun a0 r1 => onil r1 (obind (argP (T := T) 184 a0) fun c0 => spec_l1Byte n c0)
def spec_l1Byte_ent (n : Nat) : Ent T := ⟨188, 2, [], Int × Sl1Cur, spec_l1Byte_D n, spec_l1Byte_enc⟩
def spec_l1Below_D (n : Nat) (r0 : List (A T)) : Option (Int × Sl1Cur) := ocons r0 fun a0 r1 => ocons r1 fun a1 r2 => onil r2 (obind (argP (T := T) 184 a0) fun c0 => obind (argV (T := T) 3 a1) fun n1 => spec_l1Below n c0 n1)
def spec_l1Below_ent (n : Nat) : Ent T := ⟨132, 3, [], Int × Sl1Cur, spec_l1Below_D n, spec_l1Below_enc⟩
def spec_l1Pick_D (n : Nat) (r0 : List (A T)) : Option (ByteArray × Sl1Cur) := ocons r0 fun a0 r1 => ocons r1 fun a1 r2 => onil r2 (obind (argP (T := T) 184 a0) fun c0 => obind (argV (T := T) 82 a1) fun list1 => spec_l1Pick n c0 list1)
def spec_l1Pick_ent (n : Nat) : Ent T := ⟨155, 4, [], ByteArray × Sl1Cur, spec_l1Pick_D n, spec_l1Pick_enc⟩
def spec_l14Who_D (n : Nat) (r0 : List (A T)) : Option (ByteArray × Sl1Cur) := ocons r0 fun a0 r1 => onil r1 (obind (argP (T := T) 184 a0) fun c0 => spec_l14Who n c0)
def spec_l14Who_ent (n : Nat) : Ent T := ⟨189, 5, [], ByteArray × Sl1Cur, spec_l14Who_D n, spec_l14Who_enc⟩
def spec_l1Once_D (n : Nat) (r0 : List (A T)) : Option (Bool × Sl1Cur) := ocons r0 fun a0 r1 => ocons r1 fun a1 r2 => onil r2 (obind (argP (T := T) 184 a0) fun c0 => obind (argV (T := T) 3 a1) fun n1 => spec_l1Once n c0 n1)
def spec_l1Once_ent (n : Nat) : Ent T := ⟨172, 6, [], Bool × Sl1Cur, spec_l1Once_D n, spec_l1Once_enc⟩
def spec_l1PickInt_D (n : Nat) (r0 : List (A T)) : Option (Int × Sl1Cur) := ocons r0 fun a0 r1 => ocons r1 fun a1 r2 => onil r2 (obind (argP (T := T) 184 a0) fun c0 => obind (argV (T := T) 24 a1) fun list1 => spec_l1PickInt n c0 list1)
def spec_l1PickInt_ent (n : Nat) : Ent T := ⟨190, 7, [], Int × Sl1Cur, spec_l1PickInt_D n, spec_l1PickInt_enc⟩
def spec_l14DrawOp_D (n : Nat) (r0 : List (A T)) : Option (SBillOp × Sl1Cur) := ocons r0 fun a0 r1 => onil r1 (obind (argP (T := T) 184 a0) fun c0 => spec_l14DrawOp n c0)
def spec_l14DrawOp_ent (n : Nat) : Ent T := ⟨133, 8, [], SBillOp × Sl1Cur, spec_l14DrawOp_D n, spec_l14DrawOp_enc⟩
def spec_l14Copy_D (n : Nat) (r0 : List (A T)) : Option SBook := ocons r0 fun a0 r1 => onil r1 (obind (argV (T := T) 68 a0) fun b0 => spec_l14Copy n b0)
def spec_l14Copy_ent (n : Nat) : Ent T := ⟨106, 9, [], SBook, spec_l14Copy_D n, spec_l14Copy_enc⟩
def spec_l1In_D (n : Nat) (r0 : List (A T)) : Option Bool := ocons r0 fun a0 r1 => ocons r1 fun a1 r2 => ocons r2 fun a2 r3 => onil r3 (obind (argV (T := T) 3 a0) fun x0 => obind (argV (T := T) 3 a1) fun a1 => obind (argV (T := T) 3 a2) fun b2 => spec_l1In n x0 a1 b2)
def spec_l1In_ent (n : Nat) : Ent T := ⟨73, 10, [], Bool, spec_l1In_D n, spec_l1In_enc⟩
def spec_l1Name_D (n : Nat) (r0 : List (A T)) : Option Bool := ocons r0 fun a0 r1 => onil r1 (obind (argV (T := T) 9 a0) fun s0 => spec_l1Name n s0)
def spec_l1Name_ent (n : Nat) : Ent T := ⟨174, 11, [], Bool, spec_l1Name_D n, spec_l1Name_enc⟩
def spec_l14Find_D (n : Nat) (r0 : List (A T)) : Option Int := ocons r0 fun a0 r1 => ocons r1 fun a1 r2 => onil r2 (obind (argV (T := T) 68 a0) fun b0 => obind (argV (T := T) 3 a1) fun id1 => spec_l14Find n b0 id1)
def spec_l14Find_ent (n : Nat) : Ent T := ⟨109, 12, [], Int, spec_l14Find_D n, spec_l14Find_enc⟩
def spec_BookOk_D (n : Nat) (r0 : List (A T)) : Option Bool := ocons r0 fun a0 r1 => onil r1 (obind (argV (T := T) 68 a0) fun b0 => spec_BookOk n b0)
def spec_BookOk_ent (n : Nat) : Ent T := ⟨107, 13, [], Bool, spec_BookOk_D n, spec_BookOk_enc⟩
def spec_l14Op_D (n : Nat) (r0 : List (A T)) : Option Bool := ocons r0 fun a0 r1 => onil r1 (obind (argV (T := T) 72 a0) fun op0 => spec_l14Op n op0)
def spec_l14Op_ent (n : Nat) : Ent T := ⟨108, 14, [], Bool, spec_l14Op_D n, spec_l14Op_enc⟩
def spec_l14Made_D (n : Nat) (r0 : List (A T)) : Option (List ByteArray) := ocons r0 fun a0 r1 => ocons r1 fun a1 r2 => onil r2 (obind (argV (T := T) 9 a0) fun who0 => obind (argV (T := T) 3 a1) fun many1 => spec_l14Made n who0 many1)
def spec_l14Made_ent (n : Nat) : Ent T := ⟨110, 15, [], List ByteArray, spec_l14Made_D n, spec_l14Made_enc⟩
def spec_l9Has_D (n : Nat) (r0 : List (A T)) : Option Bool := ocons r0 fun a0 r1 => ocons r1 fun a1 r2 => onil r2 (obind (argV (T := T) 24 a0) fun list0 => obind (argV (T := T) 3 a1) fun x1 => spec_l9Has n list0 x1)
def spec_l9Has_ent (n : Nat) : Ent T := ⟨111, 16, [], Bool, spec_l9Has_D n, spec_l9Has_enc⟩
def spec_l14Holds_D (n : Nat) (r0 : List (A T)) : Option Int := ocons r0 fun a0 r1 => ocons r1 fun a1 r2 => onil r2 (obind (argV (T := T) 84 a0) fun x0 => obind (argV (T := T) 9 a1) fun who1 => spec_l14Holds n x0 who1)
def spec_l14Holds_ent (n : Nat) : Ent T := ⟨175, 17, [], Int, spec_l14Holds_D n, spec_l14Holds_enc⟩
def spec_l14Do_D (n : Nat) (r0 : List (A T)) : Option (SBill × Bool) := ocons r0 fun a0 r1 => ocons r1 fun a1 r2 => onil r2 (obind (argV (T := T) 84 a0) fun x0 => obind (argV (T := T) 72 a1) fun op1 => spec_l14Do n x0 op1)
def spec_l14Do_ent (n : Nat) : Ent T := ⟨112, 18, [], SBill × Bool, spec_l14Do_D n, spec_l14Do_enc⟩
def spec_DoBill_D (n : Nat) (r0 : List (A T)) : Option (SBook × Int) := ocons r0 fun a0 r1 => ocons r1 fun a1 r2 => onil r2 (obind (argV (T := T) 68 a0) fun b0 => obind (argV (T := T) 72 a1) fun op1 => spec_DoBill n b0 op1)
def spec_DoBill_ent (n : Nat) : Ent T := ⟨40, 19, [], SBook × Int, spec_DoBill_D n, spec_DoBill_enc⟩
def spec_l14Draw_D (n : Nat) (r0 : List (A T)) : Option (SBook × Sl1Cur) := ocons r0 fun a0 r1 => onil r1 (obind (argP (T := T) 184 a0) fun c0 => spec_l14Draw n c0)
def spec_l14Draw_ent (n : Nat) : Ent T := ⟨131, 20, [], SBook × Sl1Cur, spec_l14Draw_D n, spec_l14Draw_enc⟩
def spec_DrawBook_D (n : Nat) (r0 : List (A T)) : Option (SBook × List SBillOp) := ocons r0 fun a0 r1 => onil r1 (obind (argV (T := T) 34 a0) fun code0 => spec_DrawBook n code0)
def spec_DrawBook_ent (n : Nat) : Ent T := ⟨47, 21, [], SBook × List SBillOp, spec_DrawBook_D n, spec_DrawBook_enc⟩
def impl_own_impl_Bill_D (n : Nat) (r0 : List (A T)) : Option (List SBill) := ocons r0 fun a0 r1 => onil r1 (obind (argV (T := T) 66 a0) fun l0 => impl_own_impl_Bill n l0)
def impl_own_impl_Bill_ent (n : Nat) : Ent T := ⟨177, 22, [], List SBill, impl_own_impl_Bill_D n, impl_own_impl_Bill_enc⟩
def impl_own_string_D (n : Nat) (r0 : List (A T)) : Option (List ByteArray) := ocons r0 fun a0 r1 => onil r1 (obind (argV (T := T) 82 a0) fun l0 => impl_own_string n l0)
def impl_own_string_ent (n : Nat) : Ent T := ⟨141, 23, [], List ByteArray, impl_own_string_D n, impl_own_string_enc⟩
def impl_own_int_D (n : Nat) (r0 : List (A T)) : Option (List Int) := ocons r0 fun a0 r1 => onil r1 (obind (argV (T := T) 24 a0) fun l0 => impl_own_int n l0)
def impl_own_int_ent (n : Nat) : Ent T := ⟨79, 24, [], List Int, impl_own_int_D n, impl_own_int_enc⟩
def impl_Book_own_D (n : Nat) (r0 : List (A T)) : Option SBook := ocons r0 fun a0 r1 => onil r1 (obind (argV (T := T) 68 a0) fun b0 => impl_Book_own n b0)
def impl_Book_own_ent (n : Nat) : Ent T := ⟨115, 25, [], SBook, impl_Book_own_D n, impl_Book_own_enc⟩
def impl_nameOk_D (n : Nat) (r0 : List (A T)) : Option Bool := ocons r0 fun a0 r1 => onil r1 (obind (argV (T := T) 9 a0) fun s0 => impl_nameOk n s0)
def impl_nameOk_ent (n : Nat) : Ent T := ⟨116, 26, [], Bool, impl_nameOk_D n, impl_nameOk_enc⟩
def impl_in_D (n : Nat) (r0 : List (A T)) : Option Bool := ocons r0 fun a0 r1 => ocons r1 fun a1 r2 => ocons r2 fun a2 r3 => onil r3 (obind (argV (T := T) 3 a0) fun n0 => obind (argV (T := T) 3 a1) fun least1 => obind (argV (T := T) 3 a2) fun most2 => impl_in n n0 least1 most2)
def impl_in_ent (n : Nat) : Ent T := ⟨87, 27, [], Bool, impl_in_D n, impl_in_enc⟩
def impl_idRight_D (n : Nat) (r0 : List (A T)) : Option Bool := ocons r0 fun a0 r1 => onil r1 (obind (argV (T := T) 3 a0) fun n0 => impl_idRight n n0)
def impl_idRight_ent (n : Nat) : Ent T := ⟨118, 28, [], Bool, impl_idRight_D n, impl_idRight_enc⟩
def impl_emptyOrName_D (n : Nat) (r0 : List (A T)) : Option Bool := ocons r0 fun a0 r1 => onil r1 (obind (argV (T := T) 9 a0) fun s0 => impl_emptyOrName n s0)
def impl_emptyOrName_ent (n : Nat) : Ent T := ⟨117, 29, [], Bool, impl_emptyOrName_D n, impl_emptyOrName_enc⟩
def impl_BookOk_1_D (n : Nat) (r0 : List (A T)) : Option Bool := ocons r0 fun a0 r1 => onil r1 (obind (argV (T := T) 9 a0) fun s0 => impl_BookOk_1 n s0)
def impl_BookOk_1_ent (n : Nat) : Ent T := ⟨134, 30, [], Bool, impl_BookOk_1_D n, impl_BookOk_1_enc⟩
def slices_IndexFunc_string_string__impl_BookOk_1_D (n : Nat) (ar : List (A T)) : Option Int := match ar with
  | [a0, .fn _ []] => obind (argV (T := T) 82 a0) fun s0 => slices_IndexFunc_string_string__impl_BookOk_1 n s0
  | _ => none
def slices_IndexFunc_string_string__impl_BookOk_1_ent (n : Nat) : Ent T := ⟨183, 31, [134], Int, slices_IndexFunc_string_string__impl_BookOk_1_D n, slices_IndexFunc_string_string__impl_BookOk_1_enc⟩
def slices_ContainsFunc_string_string__impl_BookOk_1_D (n : Nat) (ar : List (A T)) : Option Bool := match ar with
  | [a0, .fn _ []] => obind (argV (T := T) 82 a0) fun s0 => slices_ContainsFunc_string_string__impl_BookOk_1 n s0
  | _ => none
def slices_ContainsFunc_string_string__impl_BookOk_1_ent (n : Nat) : Ent T := ⟨125, 32, [134], Bool, slices_ContainsFunc_string_string__impl_BookOk_1_D n, slices_ContainsFunc_string_string__impl_BookOk_1_enc⟩
def impl_BookOk_D (n : Nat) (r0 : List (A T)) : Option Bool := ocons r0 fun a0 r1 => onil r1 (obind (argV (T := T) 68 a0) fun b0 => impl_BookOk n b0)
def impl_BookOk_ent (n : Nat) : Ent T := ⟨48, 33, [], Bool, impl_BookOk_D n, impl_BookOk_enc⟩
def impl_Book_at_1_D (n : Nat) (r0 : List (A T)) : Option Bool := ocons r0 fun a0 r1 => ocons r1 fun a1 r2 => onil r2 (obind (argV (T := T) 84 a0) fun x0 => obind (argP (T := T) 3 a1) fun a1 => impl_Book_at_1 n x0 a1)
def impl_Book_at_1_ent (n : Nat) : Ent T := ⟨179, 34, [], Bool, impl_Book_at_1_D n, impl_Book_at_1_enc⟩
def slices_IndexFunc_impl_Bill_impl_Bill__impl_Book_at_1_D (n : Nat) (ar : List (A T)) : Option Int := match ar with
  | [a0, .fn _ [k1_0]] => obind (argV (T := T) 66 a0) fun s0 => obind (argP (T := T) 3 k1_0) fun f1c0 => slices_IndexFunc_impl_Bill_impl_Bill__impl_Book_at_1 n s0 f1c0
  | _ => none
def slices_IndexFunc_impl_Bill_impl_Bill__impl_Book_at_1_ent (n : Nat) : Ent T := ⟨178, 35, [179], Int, slices_IndexFunc_impl_Bill_impl_Bill__impl_Book_at_1_D n, slices_IndexFunc_impl_Bill_impl_Bill__impl_Book_at_1_enc⟩
def impl_Book_at_D (n : Nat) (r0 : List (A T)) : Option Int := ocons r0 fun a0 r1 => ocons r1 fun a1 r2 => onil r2 (obind (argV (T := T) 68 a0) fun b0 => obind (argV (T := T) 3 a1) fun id1 => impl_Book_at n b0 id1)
def impl_Book_at_ent (n : Nat) : Ent T := ⟨119, 36, [], Int, impl_Book_at_D n, impl_Book_at_enc⟩
def impl_heldBy_D (n : Nat) (r0 : List (A T)) : Option (List ByteArray) := ocons r0 fun a0 r1 => ocons r1 fun a1 r2 => onil r2 (obind (argV (T := T) 9 a0) fun who0 => obind (argV (T := T) 3 a1) fun many1 => impl_heldBy n who0 many1)
def impl_heldBy_ent (n : Nat) : Ent T := ⟨120, 37, [], List ByteArray, impl_heldBy_D n, impl_heldBy_enc⟩
def impl_DoBill_1_D (n : Nat) (r0 : List (A T)) : Option Int := ocons r0 fun a0 r1 => ocons r1 fun a1 r2 => onil r2 (obind (argV (T := T) 84 a0) fun a0 => obind (argV (T := T) 84 a1) fun b1 => impl_DoBill_1 n a0 b1)
def impl_DoBill_1_ent (n : Nat) : Ent T := ⟨122, 38, [], Int, impl_DoBill_1_D n, impl_DoBill_1_enc⟩
def slices_SortFunc_impl_Bill_impl_Bill__impl_DoBill_1_D (n : Nat) (ar : List (A T)) : Option (List SBill) := match ar with
  | [a0, .fn _ []] => obind (argV (T := T) 66 a0) fun l0 => slices_SortFunc_impl_Bill_impl_Bill__impl_DoBill_1 n l0
  | _ => none
def slices_SortFunc_impl_Bill_impl_Bill__impl_DoBill_1_ent (n : Nat) : Ent T := ⟨121, 39, [122], List SBill, slices_SortFunc_impl_Bill_impl_Bill__impl_DoBill_1_D n, slices_SortFunc_impl_Bill_impl_Bill__impl_DoBill_1_enc⟩
def slices_Index_int_int_D (n : Nat) (r0 : List (A T)) : Option Int := ocons r0 fun a0 r1 => ocons r1 fun a1 r2 => onil r2 (obind (argV (T := T) 24 a0) fun s0 => obind (argV (T := T) 3 a1) fun v1 => slices_Index_int_int n s0 v1)
def slices_Index_int_int_ent (n : Nat) : Ent T := ⟨181, 40, [], Int, slices_Index_int_int_D n, slices_Index_int_int_enc⟩
def slices_Contains_int_int_D (n : Nat) (r0 : List (A T)) : Option Bool := ocons r0 fun a0 r1 => ocons r1 fun a1 r2 => onil r2 (obind (argV (T := T) 24 a0) fun s0 => obind (argV (T := T) 3 a1) fun v1 => slices_Contains_int_int n s0 v1)
def slices_Contains_int_int_ent (n : Nat) : Ent T := ⟨123, 41, [], Bool, slices_Contains_int_int_D n, slices_Contains_int_int_enc⟩
def slices_Index_string_string_D (n : Nat) (r0 : List (A T)) : Option Int := ocons r0 fun a0 r1 => ocons r1 fun a1 r2 => onil r2 (obind (argV (T := T) 82 a0) fun s0 => obind (argV (T := T) 9 a1) fun v1 => slices_Index_string_string n s0 v1)
def slices_Index_string_string_ent (n : Nat) : Ent T := ⟨182, 42, [], Int, slices_Index_string_string_D n, slices_Index_string_string_enc⟩
def slices_Contains_string_string_D (n : Nat) (r0 : List (A T)) : Option Bool := ocons r0 fun a0 r1 => ocons r1 fun a1 r2 => onil r2 (obind (argV (T := T) 82 a0) fun s0 => obind (argV (T := T) 9 a1) fun v1 => slices_Contains_string_string n s0 v1)
def slices_Contains_string_string_ent (n : Nat) : Ent T := ⟨124, 43, [], Bool, slices_Contains_string_string_D n, slices_Contains_string_string_enc⟩
def slices_Sort_int_int_D (n : Nat) (r0 : List (A T)) : Option (List Int) := ocons r0 fun a0 r1 => onil r1 (obind (argV (T := T) 24 a0) fun l0 => slices_Sort_int_int n l0)
def slices_Sort_int_int_ent (n : Nat) : Ent T := ⟨127, 44, [], List Int, slices_Sort_int_int_D n, slices_Sort_int_int_enc⟩
def impl_DoBill_2_D (n : Nat) (r0 : List (A T)) : Option Bool := ocons r0 fun a0 r1 => ocons r1 fun a1 r2 => onil r2 (obind (argV (T := T) 9 a0) fun s0 => obind (argP (T := T) 72 a1) fun a1 => impl_DoBill_2 n s0 a1)
def impl_DoBill_2_ent (n : Nat) : Ent T := ⟨126, 45, [], Bool, impl_DoBill_2_D n, impl_DoBill_2_enc⟩
def slices_IndexFunc_string_string__impl_DoBill_2_D (n : Nat) (ar : List (A T)) : Option Int := match ar with
  | [a0, .fn _ [k1_0]] => obind (argV (T := T) 82 a0) fun s0 => obind (argP (T := T) 72 k1_0) fun f1c0 => slices_IndexFunc_string_string__impl_DoBill_2 n s0 f1c0
  | _ => none
def slices_IndexFunc_string_string__impl_DoBill_2_ent (n : Nat) : Ent T := ⟨183, 46, [126], Int, slices_IndexFunc_string_string__impl_DoBill_2_D n, slices_IndexFunc_string_string__impl_DoBill_2_enc⟩
def slices_ContainsFunc_string_string__impl_DoBill_2_D (n : Nat) (ar : List (A T)) : Option Bool := match ar with
  | [a0, .fn _ [k1_0]] => obind (argV (T := T) 82 a0) fun s0 => obind (argP (T := T) 72 k1_0) fun f1c0 => slices_ContainsFunc_string_string__impl_DoBill_2 n s0 f1c0
  | _ => none
def slices_ContainsFunc_string_string__impl_DoBill_2_ent (n : Nat) : Ent T := ⟨125, 47, [126], Bool, slices_ContainsFunc_string_string__impl_DoBill_2_D n, slices_ContainsFunc_string_string__impl_DoBill_2_enc⟩
def impl_DoBill_D (n : Nat) (r0 : List (A T)) : Option (SBook × Int) := ocons r0 fun a0 r1 => ocons r1 fun a1 r2 => onil r2 (obind (argV (T := T) 68 a0) fun b0 => obind (argV (T := T) 72 a1) fun op1 => impl_DoBill n b0 op1)
def impl_DoBill_ent (n : Nat) : Ent T := ⟨43, 48, [], SBook × Int, impl_DoBill_D n, impl_DoBill_enc⟩
def laws_sameInts_D (n : Nat) (r0 : List (A T)) : Option Bool := ocons r0 fun a0 r1 => ocons r1 fun a1 r2 => onil r2 (obind (argV (T := T) 24 a0) fun a0 => obind (argV (T := T) 24 a1) fun b1 => laws_sameInts n a0 b1)
def laws_sameInts_ent (n : Nat) : Ent T := ⟨49, 49, [], Bool, laws_sameInts_D n, laws_sameInts_enc⟩
def laws_within_D (n : Nat) (r0 : List (A T)) : Option Bool := ocons r0 fun a0 r1 => ocons r1 fun a1 r2 => onil r2 (obind (argV (T := T) 24 a0) fun list0 => obind (argV (T := T) 3 a1) fun x1 => laws_within n list0 x1)
def laws_within_ent (n : Nat) : Ent T := ⟨50, 50, [], Bool, laws_within_D n, laws_within_enc⟩
def impl_TitleOf_D (n : Nat) (r0 : List (A T)) : Option (ByteArray × Bool) := ocons r0 fun a0 r1 => ocons r1 fun a1 r2 => onil r2 (obind (argV (T := T) 68 a0) fun b0 => obind (argV (T := T) 3 a1) fun id1 => impl_TitleOf n b0 id1)
def impl_TitleOf_ent (n : Nat) : Ent T := ⟨51, 51, [], ByteArray × Bool, impl_TitleOf_D n, impl_TitleOf_enc⟩
def impl_RunBills_D (n : Nat) (r0 : List (A T)) : Option (SBook × List Int) := ocons r0 fun a0 r1 => ocons r1 fun a1 r2 => onil r2 (obind (argV (T := T) 68 a0) fun b0 => obind (argV (T := T) 77 a1) fun ops1 => impl_RunBills n b0 ops1)
def impl_RunBills_ent (n : Nat) : Ent T := ⟨52, 52, [], SBook × List Int, impl_RunBills_D n, impl_RunBills_enc⟩
def laws_FnTitle_D (n : Nat) (r0 : List (A T)) : Option Bool := ocons r0 fun a0 r1 => onil r1 (obind (argV (T := T) 34 a0) fun code0 => laws_FnTitle n code0)
def laws_FnTitle_ent (n : Nat) : Ent T := ⟨8, 53, [], Bool, laws_FnTitle_D n, laws_FnTitle_enc⟩
def ents (n : Nat) : List (Ent T) := [laws_big_ent n, spec_l1New_ent n, spec_l1Byte_ent n, spec_l1Below_ent n, spec_l1Pick_ent n, spec_l14Who_ent n, spec_l1Once_ent n, spec_l1PickInt_ent n, spec_l14DrawOp_ent n, spec_l14Copy_ent n, spec_l1In_ent n, spec_l1Name_ent n, spec_l14Find_ent n, spec_BookOk_ent n, spec_l14Op_ent n, spec_l14Made_ent n, spec_l9Has_ent n, spec_l14Holds_ent n, spec_l14Do_ent n, spec_DoBill_ent n, spec_l14Draw_ent n, spec_DrawBook_ent n, impl_own_impl_Bill_ent n, impl_own_string_ent n, impl_own_int_ent n, impl_Book_own_ent n, impl_nameOk_ent n, impl_in_ent n, impl_idRight_ent n, impl_emptyOrName_ent n, impl_BookOk_1_ent n, slices_IndexFunc_string_string__impl_BookOk_1_ent n, slices_ContainsFunc_string_string__impl_BookOk_1_ent n, impl_BookOk_ent n, impl_Book_at_1_ent n, slices_IndexFunc_impl_Bill_impl_Bill__impl_Book_at_1_ent n, impl_Book_at_ent n, impl_heldBy_ent n, impl_DoBill_1_ent n, slices_SortFunc_impl_Bill_impl_Bill__impl_DoBill_1_ent n, slices_Index_int_int_ent n, slices_Contains_int_int_ent n, slices_Index_string_string_ent n, slices_Contains_string_string_ent n, slices_Sort_int_int_ent n, impl_DoBill_2_ent n, slices_IndexFunc_string_string__impl_DoBill_2_ent n, slices_ContainsFunc_string_string__impl_DoBill_2_ent n, impl_DoBill_ent n, laws_sameInts_ent n, laws_within_ent n, impl_TitleOf_ent n, impl_RunBills_ent n, laws_FnTitle_ent n]
abbrev Phi (n i : Nat) {R : Type} (f : Nat) (ar : List (A T)) (K : Res T → Option R) : Option R := PhiE (ents n) i f ar K
theorem mixed : Try.prog.follows .mixedOrders = true := by kernel_rfl
noncomputable def laws_big_code : Code := match Try.f21.body with | some c => c | none => .skip
def laws_big_ann : Ann := fun id => none
def laws_big_Ls (n : Nat) : Nat → Option (LSpec T) := fun id => none
theorem laws_big_tie (n : Nat) (code0 : List Int) : evF (T := T) (Phi n 0) (laws_big_Ls n) laws_big_ann n Try.f21 (sg 21) [vA T 34 code0] laws_big_dec = laws_big n code0 := by kernel_rfl
theorem laws_big_lo (n : Nat) : LoopsOk (T := T) (Phi n 0) (laws_big_Ls n) laws_big_ann n laws_big_code := loopsOk_all (cs := []) (by kernel_rfl) trivial
theorem laws_big_ok (n : Nat) : EntOk Try.prog (ents n) (laws_big_ent n) := by
  intro hs ar y hg h
  replace h : laws_big_D n ar = some y := h
  unfold laws_big_D at h
  replace h := ocons_some h
  obtain ⟨a0, r0, rfl, h⟩ := h
  replace h := onil_some h
  obtain ⟨rfl, h⟩ := h
  obtain ⟨code0, qh0, h⟩ := obind_some h
  rw [argV_eq ok qh0]
  exact call_of (phiE_nat _ _) hs ok mixed Try.func21 (c := laws_big_code) (by kernel_rfl) (laws_big_lo n) (by kernel_rfl) (by kernel_rfl) (by kernel_rfl) laws_big_de ((laws_big_tie n code0).trans h)
noncomputable def spec_l1New_code : Code := match Try.f82.body with | some c => c | none => .skip
def spec_l1New_3_sv : List Sv := [.one (.arr 5), .one (.int .i64), .one (.int .i64)]
def spec_l1New_3_so : List So := []
def spec_l1New_3_emb (c : List Int) (x : Int × Int) : EVs T spec_l1New_3_sv × EOs T spec_l1New_3_so := ((c, x.1, x.2, ()), ())
def spec_l1New_3_prj (y : EVs T spec_l1New_3_sv × EOs T spec_l1New_3_so) : List Int × (Int × Int) := ((y.1.1), (y.1.2.1, y.1.2.2.1))
def spec_l1New_3_b (n : Nat) {R : Type} (K : Ex → Sm.St T → Option R) (c : List Int) (x : Int × Int) (J : (Int × Int) → Option R) : Option R :=
  spec_l1New_L3 n (fun (y1 : Int) => K (.exit 0) (stOf (T := T) [0, 3] [] [.one (.arr 5), .one (.int .i64)] [] (c, y1, ()) ())) (fun z0 z1 => J (z0, z1)) c x.1 x.2
def spec_l1New_3_sp (n : Nat) : LSpec T := mkSpec T ⟨[], [0, 3, 4], []⟩ spec_l1New_3_sv spec_l1New_3_so (List Int) (Int × Int) spec_l1New_3_emb spec_l1New_3_prj (spec_l1New_3_b n)
noncomputable def spec_l1New_3_c : Code := ((loopCodes spec_l1New_code)[0]?).getD .skip
def spec_l1New_ann : Ann := fun id => bif Nat.beq id 3000003 then some ⟨[], [0, 3], []⟩ else none
def spec_l1New_Ls (n : Nat) : Nat → Option (LSpec T) := fun id => bif Nat.beq id 3 then some (spec_l1New_3_sp n) else none
theorem spec_l1New_3_le (n : Nat) : LoopEq (T := T) (Phi n 1) (spec_l1New_Ls n) spec_l1New_ann n spec_l1New_3_c (spec_l1New_3_sp n) := ⟨mkSpec_dec (fun y => rfl), fun c x => by kernel_rfl, fun K J c x => by kernel_rfl⟩
theorem spec_l1New_tie (n : Nat) (code0 : List Int) : evF (T := T) (Phi n 1) (spec_l1New_Ls n) spec_l1New_ann n Try.f82 (sg 82) [vA T 34 code0] spec_l1New_dec = spec_l1New n code0 := by kernel_rfl
theorem spec_l1New_lo (n : Nat) : LoopsOk (T := T) (Phi n 1) (spec_l1New_Ls n) spec_l1New_ann n spec_l1New_code := loopsOk_all (cs := [spec_l1New_3_c]) (by kernel_rfl) ⟨⟨_, by kernel_rfl, spec_l1New_3_le n⟩, trivial⟩
theorem spec_l1New_ok (n : Nat) : EntOk Try.prog (ents n) (spec_l1New_ent n) := by
  intro hs ar y hg h
  replace h : spec_l1New_D n ar = some y := h
  unfold spec_l1New_D at h
  replace h := ocons_some h
  obtain ⟨a0, r0, rfl, h⟩ := h
  replace h := onil_some h
  obtain ⟨rfl, h⟩ := h
  obtain ⟨code0, qh0, h⟩ := obind_some h
  rw [argV_eq ok qh0]
  exact call_of (phiE_nat _ _) hs ok mixed Try.func82 (c := spec_l1New_code) (by kernel_rfl) (spec_l1New_lo n) (by kernel_rfl) (by kernel_rfl) (by kernel_rfl) spec_l1New_de ((spec_l1New_tie n code0).trans h)
noncomputable def spec_l1Byte_code : Code := match Try.f188.body with | some c => c | none => .skip
def spec_l1Byte_ann : Ann := fun id => none
def spec_l1Byte_Ls (n : Nat) : Nat → Option (LSpec T) := fun id => none
theorem spec_l1Byte_tie (n : Nat) (c0 : Sl1Cur) : evF (T := T) (Phi n 2) (spec_l1Byte_Ls n) spec_l1Byte_ann n Try.f188 (sg 188) [.ptr 184 c0] spec_l1Byte_dec = spec_l1Byte n c0 := by kernel_rfl
theorem spec_l1Byte_lo (n : Nat) : LoopsOk (T := T) (Phi n 2) (spec_l1Byte_Ls n) spec_l1Byte_ann n spec_l1Byte_code := loopsOk_all (cs := []) (by kernel_rfl) trivial
theorem spec_l1Byte_ok (n : Nat) : EntOk Try.prog (ents n) (spec_l1Byte_ent n) := by
  intro hs ar y hg h
  replace h : spec_l1Byte_D n ar = some y := h
  unfold spec_l1Byte_D at h
  replace h := ocons_some h
  obtain ⟨a0, r0, rfl, h⟩ := h
  replace h := onil_some h
  obtain ⟨rfl, h⟩ := h
  obtain ⟨c0, qh0, h⟩ := obind_some h
  rw [argP_eq qh0]
  exact call_of (phiE_nat _ _) hs ok mixed Try.func188 (c := spec_l1Byte_code) (by kernel_rfl) (spec_l1Byte_lo n) (by kernel_rfl) (by kernel_rfl) (by kernel_rfl) spec_l1Byte_de ((spec_l1Byte_tie n c0).trans h)
noncomputable def spec_l1Below_code : Code := match Try.f132.body with | some c => c | none => .skip
def spec_l1Below_ann : Ann := fun id => none
def spec_l1Below_Ls (n : Nat) : Nat → Option (LSpec T) := fun id => none
theorem spec_l1Below_tie (n : Nat) (c0 : Sl1Cur) (n1 : Int) : evF (T := T) (Phi n 3) (spec_l1Below_Ls n) spec_l1Below_ann n Try.f132 (sg 132) [.ptr 184 c0, vA T 3 n1] spec_l1Below_dec = spec_l1Below n c0 n1 := by kernel_rfl
theorem spec_l1Below_lo (n : Nat) : LoopsOk (T := T) (Phi n 3) (spec_l1Below_Ls n) spec_l1Below_ann n spec_l1Below_code := loopsOk_all (cs := []) (by kernel_rfl) trivial
theorem spec_l1Below_ok (n : Nat) : EntOk Try.prog (ents n) (spec_l1Below_ent n) := by
  intro hs ar y hg h
  replace h : spec_l1Below_D n ar = some y := h
  unfold spec_l1Below_D at h
  replace h := ocons_some h
  obtain ⟨a0, r0, rfl, h⟩ := h
  replace h := ocons_some h
  obtain ⟨a1, r1, rfl, h⟩ := h
  replace h := onil_some h
  obtain ⟨rfl, h⟩ := h
  obtain ⟨c0, qh0, h⟩ := obind_some h
  obtain ⟨n1, qh1, h⟩ := obind_some h
  rw [argP_eq qh0, argV_eq ok qh1]
  exact call_of (phiE_nat _ _) hs ok mixed Try.func132 (c := spec_l1Below_code) (by kernel_rfl) (spec_l1Below_lo n) (by kernel_rfl) (by kernel_rfl) (by kernel_rfl) spec_l1Below_de ((spec_l1Below_tie n c0 n1).trans h)
noncomputable def spec_l1Pick_code : Code := match Try.f155.body with | some c => c | none => .skip
def spec_l1Pick_ann : Ann := fun id => none
def spec_l1Pick_Ls (n : Nat) : Nat → Option (LSpec T) := fun id => none
theorem spec_l1Pick_tie (n : Nat) (c0 : Sl1Cur) (list1 : List ByteArray) : evF (T := T) (Phi n 4) (spec_l1Pick_Ls n) spec_l1Pick_ann n Try.f155 (sg 155) [.ptr 184 c0, vA T 82 list1] spec_l1Pick_dec = spec_l1Pick n c0 list1 := by kernel_rfl
theorem spec_l1Pick_lo (n : Nat) : LoopsOk (T := T) (Phi n 4) (spec_l1Pick_Ls n) spec_l1Pick_ann n spec_l1Pick_code := loopsOk_all (cs := []) (by kernel_rfl) trivial
theorem spec_l1Pick_ok (n : Nat) : EntOk Try.prog (ents n) (spec_l1Pick_ent n) := by
  intro hs ar y hg h
  replace h : spec_l1Pick_D n ar = some y := h
  unfold spec_l1Pick_D at h
  replace h := ocons_some h
  obtain ⟨a0, r0, rfl, h⟩ := h
  replace h := ocons_some h
  obtain ⟨a1, r1, rfl, h⟩ := h
  replace h := onil_some h
  obtain ⟨rfl, h⟩ := h
  obtain ⟨c0, qh0, h⟩ := obind_some h
  obtain ⟨list1, qh1, h⟩ := obind_some h
  rw [argP_eq qh0, argV_eq ok qh1]
  exact call_of (phiE_nat _ _) hs ok mixed Try.func155 (c := spec_l1Pick_code) (by kernel_rfl) (spec_l1Pick_lo n) (by kernel_rfl) (by kernel_rfl) (by kernel_rfl) spec_l1Pick_de ((spec_l1Pick_tie n c0 list1).trans h)
noncomputable def spec_l14Who_code : Code := match Try.f189.body with | some c => c | none => .skip
def spec_l14Who_ann : Ann := fun id => none
def spec_l14Who_Ls (n : Nat) : Nat → Option (LSpec T) := fun id => none
theorem spec_l14Who_tie (n : Nat) (c0 : Sl1Cur) : evF (T := T) (Phi n 5) (spec_l14Who_Ls n) spec_l14Who_ann n Try.f189 (sg 189) [.ptr 184 c0] spec_l14Who_dec = spec_l14Who n c0 := by kernel_rfl
theorem spec_l14Who_lo (n : Nat) : LoopsOk (T := T) (Phi n 5) (spec_l14Who_Ls n) spec_l14Who_ann n spec_l14Who_code := loopsOk_all (cs := []) (by kernel_rfl) trivial
theorem spec_l14Who_ok (n : Nat) : EntOk Try.prog (ents n) (spec_l14Who_ent n) := by
  intro hs ar y hg h
  replace h : spec_l14Who_D n ar = some y := h
  unfold spec_l14Who_D at h
  replace h := ocons_some h
  obtain ⟨a0, r0, rfl, h⟩ := h
  replace h := onil_some h
  obtain ⟨rfl, h⟩ := h
  obtain ⟨c0, qh0, h⟩ := obind_some h
  rw [argP_eq qh0]
  exact call_of (phiE_nat _ _) hs ok mixed Try.func189 (c := spec_l14Who_code) (by kernel_rfl) (spec_l14Who_lo n) (by kernel_rfl) (by kernel_rfl) (by kernel_rfl) spec_l14Who_de ((spec_l14Who_tie n c0).trans h)
noncomputable def spec_l1Once_code : Code := match Try.f172.body with | some c => c | none => .skip
def spec_l1Once_ann : Ann := fun id => none
def spec_l1Once_Ls (n : Nat) : Nat → Option (LSpec T) := fun id => none
theorem spec_l1Once_tie (n : Nat) (c0 : Sl1Cur) (n1 : Int) : evF (T := T) (Phi n 6) (spec_l1Once_Ls n) spec_l1Once_ann n Try.f172 (sg 172) [.ptr 184 c0, vA T 3 n1] spec_l1Once_dec = spec_l1Once n c0 n1 := by kernel_rfl
theorem spec_l1Once_lo (n : Nat) : LoopsOk (T := T) (Phi n 6) (spec_l1Once_Ls n) spec_l1Once_ann n spec_l1Once_code := loopsOk_all (cs := []) (by kernel_rfl) trivial
theorem spec_l1Once_ok (n : Nat) : EntOk Try.prog (ents n) (spec_l1Once_ent n) := by
  intro hs ar y hg h
  replace h : spec_l1Once_D n ar = some y := h
  unfold spec_l1Once_D at h
  replace h := ocons_some h
  obtain ⟨a0, r0, rfl, h⟩ := h
  replace h := ocons_some h
  obtain ⟨a1, r1, rfl, h⟩ := h
  replace h := onil_some h
  obtain ⟨rfl, h⟩ := h
  obtain ⟨c0, qh0, h⟩ := obind_some h
  obtain ⟨n1, qh1, h⟩ := obind_some h
  rw [argP_eq qh0, argV_eq ok qh1]
  exact call_of (phiE_nat _ _) hs ok mixed Try.func172 (c := spec_l1Once_code) (by kernel_rfl) (spec_l1Once_lo n) (by kernel_rfl) (by kernel_rfl) (by kernel_rfl) spec_l1Once_de ((spec_l1Once_tie n c0 n1).trans h)
noncomputable def spec_l1PickInt_code : Code := match Try.f190.body with | some c => c | none => .skip
def spec_l1PickInt_ann : Ann := fun id => none
def spec_l1PickInt_Ls (n : Nat) : Nat → Option (LSpec T) := fun id => none
theorem spec_l1PickInt_tie (n : Nat) (c0 : Sl1Cur) (list1 : List Int) : evF (T := T) (Phi n 7) (spec_l1PickInt_Ls n) spec_l1PickInt_ann n Try.f190 (sg 190) [.ptr 184 c0, vA T 24 list1] spec_l1PickInt_dec = spec_l1PickInt n c0 list1 := by kernel_rfl
theorem spec_l1PickInt_lo (n : Nat) : LoopsOk (T := T) (Phi n 7) (spec_l1PickInt_Ls n) spec_l1PickInt_ann n spec_l1PickInt_code := loopsOk_all (cs := []) (by kernel_rfl) trivial
theorem spec_l1PickInt_ok (n : Nat) : EntOk Try.prog (ents n) (spec_l1PickInt_ent n) := by
  intro hs ar y hg h
  replace h : spec_l1PickInt_D n ar = some y := h
  unfold spec_l1PickInt_D at h
  replace h := ocons_some h
  obtain ⟨a0, r0, rfl, h⟩ := h
  replace h := ocons_some h
  obtain ⟨a1, r1, rfl, h⟩ := h
  replace h := onil_some h
  obtain ⟨rfl, h⟩ := h
  obtain ⟨c0, qh0, h⟩ := obind_some h
  obtain ⟨list1, qh1, h⟩ := obind_some h
  rw [argP_eq qh0, argV_eq ok qh1]
  exact call_of (phiE_nat _ _) hs ok mixed Try.func190 (c := spec_l1PickInt_code) (by kernel_rfl) (spec_l1PickInt_lo n) (by kernel_rfl) (by kernel_rfl) (by kernel_rfl) spec_l1PickInt_de ((spec_l1PickInt_tie n c0 list1).trans h)
noncomputable def spec_l14DrawOp_code : Code := match Try.f133.body with | some c => c | none => .skip
def spec_l14DrawOp_ann : Ann := fun id => none
def spec_l14DrawOp_Ls (n : Nat) : Nat → Option (LSpec T) := fun id => none
theorem spec_l14DrawOp_tie (n : Nat) (c0 : Sl1Cur) : evF (T := T) (Phi n 8) (spec_l14DrawOp_Ls n) spec_l14DrawOp_ann n Try.f133 (sg 133) [.ptr 184 c0] spec_l14DrawOp_dec = spec_l14DrawOp n c0 := by kernel_rfl
theorem spec_l14DrawOp_lo (n : Nat) : LoopsOk (T := T) (Phi n 8) (spec_l14DrawOp_Ls n) spec_l14DrawOp_ann n spec_l14DrawOp_code := loopsOk_all (cs := []) (by kernel_rfl) trivial
theorem spec_l14DrawOp_ok (n : Nat) : EntOk Try.prog (ents n) (spec_l14DrawOp_ent n) := by
  intro hs ar y hg h
  replace h : spec_l14DrawOp_D n ar = some y := h
  unfold spec_l14DrawOp_D at h
  replace h := ocons_some h
  obtain ⟨a0, r0, rfl, h⟩ := h
  replace h := onil_some h
  obtain ⟨rfl, h⟩ := h
  obtain ⟨c0, qh0, h⟩ := obind_some h
  rw [argP_eq qh0]
  exact call_of (phiE_nat _ _) hs ok mixed Try.func133 (c := spec_l14DrawOp_code) (by kernel_rfl) (spec_l14DrawOp_lo n) (by kernel_rfl) (by kernel_rfl) (by kernel_rfl) spec_l14DrawOp_de ((spec_l14DrawOp_tie n c0).trans h)
noncomputable def spec_l14Copy_code : Code := match Try.f106.body with | some c => c | none => .skip
def spec_l14Copy_3_sv : List Sv := [.one (.ptr 8 0 0), .one (.ptr 16 0 0), .one (.ptr 24 0 0), .one (.int .i64)]
def spec_l14Copy_3_so : List So := [.var [.arr 84, .arr 3], .var [.own 3000000 84 false, .own 3000001 3 false], .arr 84 false, .arr 3 false, .var [.own 3000002 84 false, .own 3000003 3 false], .arr 84 false, .arr 3 false]
def spec_l14Copy_3_emb (c : SBook × List SBill × List Int × List Int) (x : Int × List SBill) : EVs T spec_l14Copy_3_sv × EOs T spec_l14Copy_3_so := (((), (), (), x.1, ()), ((c.1.Bills, c.1.Freed, ()), ((), (), ()), c.2.1, c.2.2.1, ((), (), ()), x.2, c.2.2.2, ()))
def spec_l14Copy_3_prj (y : EVs T spec_l14Copy_3_sv × EOs T spec_l14Copy_3_so) : (SBook × List SBill × List Int × List Int) × (Int × List SBill) := ((((⟨y.2.1.1, y.2.1.2.1⟩ : SBook) : SBook), y.2.2.2.1, y.2.2.2.2.1, y.2.2.2.2.2.2.2.1), (y.1.2.2.2.1, y.2.2.2.2.2.2.1))
def spec_l14Copy_3_b (n : Nat) {R : Type} (K : Ex → Sm.St T → Option R) (c : SBook × List SBill × List Int × List Int) (x : Int × List SBill) (J : (Int × List SBill) → Option R) : Option R :=
  spec_l14Copy_L3 n (fun (y2 : List SBill) => K (.exit 0) (stOf (T := T) [2, 3] [16, 3000000, 3000001, 24, 3000002, 3000003] [.one (.ptr 16 0 0), .one (.ptr 24 0 0)] [.var [.own 3000000 84 false, .own 3000001 3 false], .arr 84 false, .arr 3 false, .var [.own 3000002 84 false, .own 3000003 3 false], .arr 84 false, .arr 3 false] ((), (), ()) (((), (), ()), c.2.1, c.2.2.1, ((), (), ()), y2, c.2.2.2, ()))) (fun z0 z1 => J (z0, z1)) x.1 c.1 c.2.1 c.2.2.1 x.2 c.2.2.2
def spec_l14Copy_3_sp (n : Nat) : LSpec T := mkSpec T ⟨[((.cell 16 0), 3000000, 84), ((.cell 16 1), 3000001, 3), ((.cell 24 0), 3000002, 84), ((.cell 24 1), 3000003, 3)], [1, 2, 3, 4], [8, 16, 3000000, 3000001, 24, 3000002, 3000003]⟩ spec_l14Copy_3_sv spec_l14Copy_3_so (SBook × List SBill × List Int × List Int) (Int × List SBill) spec_l14Copy_3_emb spec_l14Copy_3_prj (spec_l14Copy_3_b n)
noncomputable def spec_l14Copy_3_c : Code := ((loopCodes spec_l14Copy_code)[0]?).getD .skip
def spec_l14Copy_ann : Ann := fun id => bif Nat.beq id 3000003 then some ⟨[((.cell 16 0), 3000000, 84), ((.cell 16 1), 3000001, 3), ((.cell 24 0), 3000002, 84), ((.cell 24 1), 3000003, 3)], [2, 3], [16, 3000000, 3000001, 24, 3000002, 3000003]⟩ else none
def spec_l14Copy_Ls (n : Nat) : Nat → Option (LSpec T) := fun id => bif Nat.beq id 3 then some (spec_l14Copy_3_sp n) else none
theorem spec_l14Copy_3_le (n : Nat) : LoopEq (T := T) (Phi n 9) (spec_l14Copy_Ls n) spec_l14Copy_ann n spec_l14Copy_3_c (spec_l14Copy_3_sp n) := ⟨mkSpec_dec (fun y => rfl), fun c x => by kernel_rfl, fun K J c x => by kernel_rfl⟩
theorem spec_l14Copy_tie (n : Nat) (b0 : SBook) : evF (T := T) (Phi n 9) (spec_l14Copy_Ls n) spec_l14Copy_ann n Try.f106 (sg 106) [vA T 68 b0] spec_l14Copy_dec = spec_l14Copy n b0 := by kernel_rfl
theorem spec_l14Copy_lo (n : Nat) : LoopsOk (T := T) (Phi n 9) (spec_l14Copy_Ls n) spec_l14Copy_ann n spec_l14Copy_code := loopsOk_all (cs := [spec_l14Copy_3_c]) (by kernel_rfl) ⟨⟨_, by kernel_rfl, spec_l14Copy_3_le n⟩, trivial⟩
theorem spec_l14Copy_ok (n : Nat) : EntOk Try.prog (ents n) (spec_l14Copy_ent n) := by
  intro hs ar y hg h
  replace h : spec_l14Copy_D n ar = some y := h
  unfold spec_l14Copy_D at h
  replace h := ocons_some h
  obtain ⟨a0, r0, rfl, h⟩ := h
  replace h := onil_some h
  obtain ⟨rfl, h⟩ := h
  obtain ⟨b0, qh0, h⟩ := obind_some h
  rw [argV_eq ok qh0]
  exact call_of (phiE_nat _ _) hs ok mixed Try.func106 (c := spec_l14Copy_code) (by kernel_rfl) (spec_l14Copy_lo n) (by kernel_rfl) (by kernel_rfl) (by kernel_rfl) spec_l14Copy_de ((spec_l14Copy_tie n b0).trans h)
noncomputable def spec_l1In_code : Code := match Try.f73.body with | some c => c | none => .skip
def spec_l1In_ann : Ann := fun id => none
def spec_l1In_Ls (n : Nat) : Nat → Option (LSpec T) := fun id => none
theorem spec_l1In_tie (n : Nat) (x0 : Int) (a1 : Int) (b2 : Int) : evF (T := T) (Phi n 10) (spec_l1In_Ls n) spec_l1In_ann n Try.f73 (sg 73) [vA T 3 x0, vA T 3 a1, vA T 3 b2] spec_l1In_dec = spec_l1In n x0 a1 b2 := by kernel_rfl
theorem spec_l1In_lo (n : Nat) : LoopsOk (T := T) (Phi n 10) (spec_l1In_Ls n) spec_l1In_ann n spec_l1In_code := loopsOk_all (cs := []) (by kernel_rfl) trivial
theorem spec_l1In_ok (n : Nat) : EntOk Try.prog (ents n) (spec_l1In_ent n) := by
  intro hs ar y hg h
  replace h : spec_l1In_D n ar = some y := h
  unfold spec_l1In_D at h
  replace h := ocons_some h
  obtain ⟨a0, r0, rfl, h⟩ := h
  replace h := ocons_some h
  obtain ⟨a1, r1, rfl, h⟩ := h
  replace h := ocons_some h
  obtain ⟨a2, r2, rfl, h⟩ := h
  replace h := onil_some h
  obtain ⟨rfl, h⟩ := h
  obtain ⟨x0, qh0, h⟩ := obind_some h
  obtain ⟨a1, qh1, h⟩ := obind_some h
  obtain ⟨b2, qh2, h⟩ := obind_some h
  rw [argV_eq ok qh0, argV_eq ok qh1, argV_eq ok qh2]
  exact call_of (phiE_nat _ _) hs ok mixed Try.func73 (c := spec_l1In_code) (by kernel_rfl) (spec_l1In_lo n) (by kernel_rfl) (by kernel_rfl) (by kernel_rfl) spec_l1In_de ((spec_l1In_tie n x0 a1 b2).trans h)
noncomputable def spec_l1Name_code : Code := match Try.f174.body with | some c => c | none => .skip
def spec_l1Name_2_sv : List Sv := [.one (.str), .one (.int .i64)]
def spec_l1Name_2_so : List So := []
def spec_l1Name_2_emb (c : ByteArray) (x : Int) : EVs T spec_l1Name_2_sv × EOs T spec_l1Name_2_so := ((c, x, ()), ())
def spec_l1Name_2_prj (y : EVs T spec_l1Name_2_sv × EOs T spec_l1Name_2_so) : ByteArray × Int := ((y.1.1), (y.1.2.1))
def spec_l1Name_2_b (n : Nat) {R : Type} (K : Ex → Sm.St T → Option R) (c : ByteArray) (x : Int) (J : Int → Option R) : Option R :=
  spec_l1Name_L2 n (K (.exit 0) (stOf (T := T) [0] [] [.one (.str)] [] (c, ()) ())) (fun (y0 : Bool) => K .ret (stOf (T := T) [2] [] [.one (.bool)] [] (y0, ()) ())) J c x
def spec_l1Name_2_sp (n : Nat) : LSpec T := mkSpec T ⟨[], [0, 3], []⟩ spec_l1Name_2_sv spec_l1Name_2_so (ByteArray) (Int) spec_l1Name_2_emb spec_l1Name_2_prj (spec_l1Name_2_b n)
noncomputable def spec_l1Name_2_c : Code := ((loopCodes spec_l1Name_code)[0]?).getD .skip
def spec_l1Name_ann : Ann := fun id => bif Nat.beq id 3000002 then some ⟨[], [0], []⟩ else bif Nat.beq id 2000002 then some ⟨[], [2], []⟩ else none
def spec_l1Name_Ls (n : Nat) : Nat → Option (LSpec T) := fun id => bif Nat.beq id 2 then some (spec_l1Name_2_sp n) else none
theorem spec_l1Name_2_le (n : Nat) : LoopEq (T := T) (Phi n 11) (spec_l1Name_Ls n) spec_l1Name_ann n spec_l1Name_2_c (spec_l1Name_2_sp n) := ⟨mkSpec_dec (fun y => rfl), fun c x => by kernel_rfl, fun K J c x => by kernel_rfl⟩
theorem spec_l1Name_tie (n : Nat) (s0 : ByteArray) : evF (T := T) (Phi n 11) (spec_l1Name_Ls n) spec_l1Name_ann n Try.f174 (sg 174) [vA T 9 s0] spec_l1Name_dec = spec_l1Name n s0 := by kernel_rfl
theorem spec_l1Name_lo (n : Nat) : LoopsOk (T := T) (Phi n 11) (spec_l1Name_Ls n) spec_l1Name_ann n spec_l1Name_code := loopsOk_all (cs := [spec_l1Name_2_c]) (by kernel_rfl) ⟨⟨_, by kernel_rfl, spec_l1Name_2_le n⟩, trivial⟩
theorem spec_l1Name_ok (n : Nat) : EntOk Try.prog (ents n) (spec_l1Name_ent n) := by
  intro hs ar y hg h
  replace h : spec_l1Name_D n ar = some y := h
  unfold spec_l1Name_D at h
  replace h := ocons_some h
  obtain ⟨a0, r0, rfl, h⟩ := h
  replace h := onil_some h
  obtain ⟨rfl, h⟩ := h
  obtain ⟨s0, qh0, h⟩ := obind_some h
  rw [argV_eq ok qh0]
  exact call_of (phiE_nat _ _) hs ok mixed Try.func174 (c := spec_l1Name_code) (by kernel_rfl) (spec_l1Name_lo n) (by kernel_rfl) (by kernel_rfl) (by kernel_rfl) spec_l1Name_de ((spec_l1Name_tie n s0).trans h)
noncomputable def spec_l14Find_code : Code := match Try.f109.body with | some c => c | none => .skip
def spec_l14Find_2_sv : List Sv := [.one (.int .i64), .one (.ptr 16 0 0), .one (.int .i64)]
def spec_l14Find_2_so : List So := [.var [.arr 84, .arr 3]]
def spec_l14Find_2_emb (c : Int × SBook) (x : Int) : EVs T spec_l14Find_2_sv × EOs T spec_l14Find_2_so := ((c.1, (), x, ()), ((c.2.Bills, c.2.Freed, ()), ()))
def spec_l14Find_2_prj (y : EVs T spec_l14Find_2_sv × EOs T spec_l14Find_2_so) : (Int × SBook) × Int := ((y.1.1, ((⟨y.2.1.1, y.2.1.2.1⟩ : SBook) : SBook)), (y.1.2.2.1))
def spec_l14Find_2_b (n : Nat) {R : Type} (K : Ex → Sm.St T → Option R) (c : Int × SBook) (x : Int) (J : Int → Option R) : Option R :=
  spec_l14Find_L2 n (K (.exit 0) (stOf (T := T) [] [] [] [] () ())) (fun (y0 : Int) => K .ret (stOf (T := T) [4] [] [.one (.int .i64)] [] (y0, ()) ())) J c.1 x c.2
def spec_l14Find_2_sp (n : Nat) : LSpec T := mkSpec T ⟨[], [1, 2, 5], [16]⟩ spec_l14Find_2_sv spec_l14Find_2_so (Int × SBook) (Int) spec_l14Find_2_emb spec_l14Find_2_prj (spec_l14Find_2_b n)
noncomputable def spec_l14Find_2_c : Code := ((loopCodes spec_l14Find_code)[0]?).getD .skip
def spec_l14Find_ann : Ann := fun id => bif Nat.beq id 3000002 then some ⟨[], [], []⟩ else bif Nat.beq id 2000002 then some ⟨[], [4], []⟩ else none
def spec_l14Find_Ls (n : Nat) : Nat → Option (LSpec T) := fun id => bif Nat.beq id 2 then some (spec_l14Find_2_sp n) else none
theorem spec_l14Find_2_le (n : Nat) : LoopEq (T := T) (Phi n 12) (spec_l14Find_Ls n) spec_l14Find_ann n spec_l14Find_2_c (spec_l14Find_2_sp n) := ⟨mkSpec_dec (fun y => rfl), fun c x => by kernel_rfl, fun K J c x => by kernel_rfl⟩
theorem spec_l14Find_tie (n : Nat) (b0 : SBook) (id1 : Int) : evF (T := T) (Phi n 12) (spec_l14Find_Ls n) spec_l14Find_ann n Try.f109 (sg 109) [vA T 68 b0, vA T 3 id1] spec_l14Find_dec = spec_l14Find n b0 id1 := by kernel_rfl
theorem spec_l14Find_lo (n : Nat) : LoopsOk (T := T) (Phi n 12) (spec_l14Find_Ls n) spec_l14Find_ann n spec_l14Find_code := loopsOk_all (cs := [spec_l14Find_2_c]) (by kernel_rfl) ⟨⟨_, by kernel_rfl, spec_l14Find_2_le n⟩, trivial⟩
theorem spec_l14Find_ok (n : Nat) : EntOk Try.prog (ents n) (spec_l14Find_ent n) := by
  intro hs ar y hg h
  replace h : spec_l14Find_D n ar = some y := h
  unfold spec_l14Find_D at h
  replace h := ocons_some h
  obtain ⟨a0, r0, rfl, h⟩ := h
  replace h := ocons_some h
  obtain ⟨a1, r1, rfl, h⟩ := h
  replace h := onil_some h
  obtain ⟨rfl, h⟩ := h
  obtain ⟨b0, qh0, h⟩ := obind_some h
  obtain ⟨id1, qh1, h⟩ := obind_some h
  rw [argV_eq ok qh0, argV_eq ok qh1]
  exact call_of (phiE_nat _ _) hs ok mixed Try.func109 (c := spec_l14Find_code) (by kernel_rfl) (spec_l14Find_lo n) (by kernel_rfl) (by kernel_rfl) (by kernel_rfl) spec_l14Find_de ((spec_l14Find_tie n b0 id1).trans h)
noncomputable def spec_BookOk_code : Code := match Try.f107.body with | some c => c | none => .skip
def spec_BookOk_2_sv : List Sv := [.one (.ptr 8 0 0), .one (.int .i64)]
def spec_BookOk_2_so : List So := [.var [.arr 84, .arr 3]]
def spec_BookOk_2_emb (c : SBook) (x : Int) : EVs T spec_BookOk_2_sv × EOs T spec_BookOk_2_so := (((), x, ()), ((c.Bills, c.Freed, ()), ()))
def spec_BookOk_2_prj (y : EVs T spec_BookOk_2_sv × EOs T spec_BookOk_2_so) : SBook × Int := ((((⟨y.2.1.1, y.2.1.2.1⟩ : SBook) : SBook)), (y.1.2.1))
def spec_BookOk_2_b (n : Nat) {R : Type} (K : Ex → Sm.St T → Option R) (c : SBook) (x : Int) (J : Int → Option R) : Option R :=
  spec_BookOk_L2 n (K (.exit 0) (stOf (T := T) [1] [8] [.one (.ptr 8 0 0)] [.var [.arr 84, .arr 3]] ((), ()) ((c.Bills, c.Freed, ()), ()))) (fun (y0 : Bool) => K .ret (stOf (T := T) [2] [] [.one (.bool)] [] (y0, ()) ())) J x c
def spec_BookOk_2_sp (n : Nat) : LSpec T := mkSpec T ⟨[], [1, 3], [8]⟩ spec_BookOk_2_sv spec_BookOk_2_so (SBook) (Int) spec_BookOk_2_emb spec_BookOk_2_prj (spec_BookOk_2_b n)
noncomputable def spec_BookOk_2_c : Code := ((loopCodes spec_BookOk_code)[0]?).getD .skip
def spec_BookOk_8_sv : List Sv := [.one (.ptr 8 0 0), .one (.int .i64), .one (.ptr 32 0 0), .one (.int .i64)]
def spec_BookOk_8_so : List So := [.var [.arr 84, .arr 3], .var [.int .i64, .str, .str, .int .i64, .arr 9]]
def spec_BookOk_8_emb (c : Int × SBook × SBill) (x : Int) : EVs T spec_BookOk_8_sv × EOs T spec_BookOk_8_so := (((), c.1, (), x, ()), ((c.2.1.Bills, c.2.1.Freed, ()), (c.2.2.Id, c.2.2.Shipper, c.2.2.Order, c.2.2.Many, c.2.2.Held, ()), ()))
def spec_BookOk_8_prj (y : EVs T spec_BookOk_8_sv × EOs T spec_BookOk_8_so) : (Int × SBook × SBill) × Int := ((y.1.2.1, ((⟨y.2.1.1, y.2.1.2.1⟩ : SBook) : SBook), ((⟨y.2.2.1.1, y.2.2.1.2.1, y.2.2.1.2.2.1, y.2.2.1.2.2.2.1, y.2.2.1.2.2.2.2.1⟩ : SBill) : SBill)), (y.1.2.2.2.1))
def spec_BookOk_8_b (n : Nat) {R : Type} (K : Ex → Sm.St T → Option R) (c : Int × SBook × SBill) (x : Int) (J : Int → Option R) : Option R :=
  spec_BookOk_L8 n (K (.exit 2) (stOf (T := T) [1, 3] [8] [.one (.ptr 8 0 0), .one (.int .i64)] [.var [.arr 84, .arr 3]] ((), c.1, ()) ((c.2.1.Bills, c.2.1.Freed, ()), ()))) (fun (y0 : Bool) => K .ret (stOf (T := T) [2] [] [.one (.bool)] [] (y0, ()) ())) J c.1 x c.2.1 c.2.2
def spec_BookOk_8_sp (n : Nat) : LSpec T := mkSpec T ⟨[], [1, 3, 4, 5], [8, 32]⟩ spec_BookOk_8_sv spec_BookOk_8_so (Int × SBook × SBill) (Int) spec_BookOk_8_emb spec_BookOk_8_prj (spec_BookOk_8_b n)
noncomputable def spec_BookOk_8_c : Code := ((loopCodes spec_BookOk_code)[1]?).getD .skip
def spec_BookOk_13_sv : List Sv := [.one (.ptr 8 0 0), .one (.int .i64)]
def spec_BookOk_13_so : List So := [.var [.arr 84, .arr 3]]
def spec_BookOk_13_emb (c : SBook) (x : Int) : EVs T spec_BookOk_13_sv × EOs T spec_BookOk_13_so := (((), x, ()), ((c.Bills, c.Freed, ()), ()))
def spec_BookOk_13_prj (y : EVs T spec_BookOk_13_sv × EOs T spec_BookOk_13_so) : SBook × Int := ((((⟨y.2.1.1, y.2.1.2.1⟩ : SBook) : SBook)), (y.1.2.1))
def spec_BookOk_13_b (n : Nat) {R : Type} (K : Ex → Sm.St T → Option R) (c : SBook) (x : Int) (J : Int → Option R) : Option R :=
  spec_BookOk_L13 n (K (.exit 4) (stOf (T := T) [1] [8] [.one (.ptr 8 0 0)] [.var [.arr 84, .arr 3]] ((), ()) ((c.Bills, c.Freed, ()), ()))) (fun (y0 : Bool) => K .ret (stOf (T := T) [2] [] [.one (.bool)] [] (y0, ()) ())) J x c
def spec_BookOk_13_sp (n : Nat) : LSpec T := mkSpec T ⟨[], [1, 6], [8]⟩ spec_BookOk_13_sv spec_BookOk_13_so (SBook) (Int) spec_BookOk_13_emb spec_BookOk_13_prj (spec_BookOk_13_b n)
noncomputable def spec_BookOk_13_c : Code := ((loopCodes spec_BookOk_code)[2]?).getD .skip
def spec_BookOk_ann : Ann := fun id => bif Nat.beq id 3000002 then some ⟨[], [1], [8]⟩ else bif Nat.beq id 2000002 then some ⟨[], [2], []⟩ else bif Nat.beq id 5000008 then some ⟨[], [1, 3], [8]⟩ else bif Nat.beq id 2000008 then some ⟨[], [2], []⟩ else bif Nat.beq id 7000013 then some ⟨[], [1], [8]⟩ else bif Nat.beq id 2000013 then some ⟨[], [2], []⟩ else none
def spec_BookOk_Ls (n : Nat) : Nat → Option (LSpec T) := fun id => bif Nat.beq id 2 then some (spec_BookOk_2_sp n) else bif Nat.beq id 8 then some (spec_BookOk_8_sp n) else bif Nat.beq id 13 then some (spec_BookOk_13_sp n) else none
theorem spec_BookOk_2_le (n : Nat) : LoopEq (T := T) (Phi n 13) (spec_BookOk_Ls n) spec_BookOk_ann n spec_BookOk_2_c (spec_BookOk_2_sp n) := ⟨mkSpec_dec (fun y => rfl), fun c x => by kernel_rfl, fun K J c x => by kernel_rfl⟩
theorem spec_BookOk_8_le (n : Nat) : LoopEq (T := T) (Phi n 13) (spec_BookOk_Ls n) spec_BookOk_ann n spec_BookOk_8_c (spec_BookOk_8_sp n) := ⟨mkSpec_dec (fun y => rfl), fun c x => by kernel_rfl, fun K J c x => by kernel_rfl⟩
theorem spec_BookOk_13_le (n : Nat) : LoopEq (T := T) (Phi n 13) (spec_BookOk_Ls n) spec_BookOk_ann n spec_BookOk_13_c (spec_BookOk_13_sp n) := ⟨mkSpec_dec (fun y => rfl), fun c x => by kernel_rfl, fun K J c x => by kernel_rfl⟩
theorem spec_BookOk_tie (n : Nat) (b0 : SBook) : evF (T := T) (Phi n 13) (spec_BookOk_Ls n) spec_BookOk_ann n Try.f107 (sg 107) [vA T 68 b0] spec_BookOk_dec = spec_BookOk n b0 := by kernel_rfl
theorem spec_BookOk_lo (n : Nat) : LoopsOk (T := T) (Phi n 13) (spec_BookOk_Ls n) spec_BookOk_ann n spec_BookOk_code := loopsOk_all (cs := [spec_BookOk_2_c, spec_BookOk_8_c, spec_BookOk_13_c]) (by kernel_rfl) ⟨⟨_, by kernel_rfl, spec_BookOk_2_le n⟩, ⟨_, by kernel_rfl, spec_BookOk_8_le n⟩, ⟨_, by kernel_rfl, spec_BookOk_13_le n⟩, trivial⟩
theorem spec_BookOk_ok (n : Nat) : EntOk Try.prog (ents n) (spec_BookOk_ent n) := by
  intro hs ar y hg h
  replace h : spec_BookOk_D n ar = some y := h
  unfold spec_BookOk_D at h
  replace h := ocons_some h
  obtain ⟨a0, r0, rfl, h⟩ := h
  replace h := onil_some h
  obtain ⟨rfl, h⟩ := h
  obtain ⟨b0, qh0, h⟩ := obind_some h
  rw [argV_eq ok qh0]
  exact call_of (phiE_nat _ _) hs ok mixed Try.func107 (c := spec_BookOk_code) (by kernel_rfl) (spec_BookOk_lo n) (by kernel_rfl) (by kernel_rfl) (by kernel_rfl) spec_BookOk_de ((spec_BookOk_tie n b0).trans h)
noncomputable def spec_l14Op_code : Code := match Try.f108.body with | some c => c | none => .skip
def spec_l14Op_ann : Ann := fun id => none
def spec_l14Op_Ls (n : Nat) : Nat → Option (LSpec T) := fun id => none
theorem spec_l14Op_tie (n : Nat) (op0 : SBillOp) : evF (T := T) (Phi n 14) (spec_l14Op_Ls n) spec_l14Op_ann n Try.f108 (sg 108) [vA T 72 op0] spec_l14Op_dec = spec_l14Op n op0 := by kernel_rfl
theorem spec_l14Op_lo (n : Nat) : LoopsOk (T := T) (Phi n 14) (spec_l14Op_Ls n) spec_l14Op_ann n spec_l14Op_code := loopsOk_all (cs := []) (by kernel_rfl) trivial
theorem spec_l14Op_ok (n : Nat) : EntOk Try.prog (ents n) (spec_l14Op_ent n) := by
  intro hs ar y hg h
  replace h : spec_l14Op_D n ar = some y := h
  unfold spec_l14Op_D at h
  replace h := ocons_some h
  obtain ⟨a0, r0, rfl, h⟩ := h
  replace h := onil_some h
  obtain ⟨rfl, h⟩ := h
  obtain ⟨op0, qh0, h⟩ := obind_some h
  rw [argV_eq ok qh0]
  exact call_of (phiE_nat _ _) hs ok mixed Try.func108 (c := spec_l14Op_code) (by kernel_rfl) (spec_l14Op_lo n) (by kernel_rfl) (by kernel_rfl) (by kernel_rfl) spec_l14Op_de ((spec_l14Op_tie n op0).trans h)
noncomputable def spec_l14Made_code : Code := match Try.f110.body with | some c => c | none => .skip
def spec_l14Made_3_sv : List Sv := [.one (.str), .one (.int .i64), .one (.own 3000000 9 false), .one (.int .i64)]
def spec_l14Made_3_so : List So := [.arr 9 false]
def spec_l14Made_3_emb (c : ByteArray × Int) (x : Int × List ByteArray) : EVs T spec_l14Made_3_sv × EOs T spec_l14Made_3_so := ((c.1, c.2, (), x.1, ()), (x.2, ()))
def spec_l14Made_3_prj (y : EVs T spec_l14Made_3_sv × EOs T spec_l14Made_3_so) : (ByteArray × Int) × (Int × List ByteArray) := ((y.1.1, y.1.2.1), (y.1.2.2.2.1, y.2.1))
def spec_l14Made_3_b (n : Nat) {R : Type} (K : Ex → Sm.St T → Option R) (c : ByteArray × Int) (x : Int × List ByteArray) (J : (Int × List ByteArray) → Option R) : Option R :=
  spec_l14Made_L3 n (fun (y0 : List ByteArray) => K (.exit 0) (stOf (T := T) [5] [3000000] [.one (.own 3000000 9 false)] [.arr 9 false] ((), ()) (y0, ()))) (fun z0 z1 => J (z0, z1)) c.1 c.2 x.1 x.2
def spec_l14Made_3_sp (n : Nat) : LSpec T := mkSpec T ⟨[((.reg 5), 3000000, 9)], [0, 1, 5, 6], [3000000]⟩ spec_l14Made_3_sv spec_l14Made_3_so (ByteArray × Int) (Int × List ByteArray) spec_l14Made_3_emb spec_l14Made_3_prj (spec_l14Made_3_b n)
noncomputable def spec_l14Made_3_c : Code := ((loopCodes spec_l14Made_code)[0]?).getD .skip
def spec_l14Made_ann : Ann := fun id => bif Nat.beq id 3000003 then some ⟨[((.reg 5), 3000000, 9)], [5], [3000000]⟩ else none
def spec_l14Made_Ls (n : Nat) : Nat → Option (LSpec T) := fun id => bif Nat.beq id 3 then some (spec_l14Made_3_sp n) else none
theorem spec_l14Made_3_le (n : Nat) : LoopEq (T := T) (Phi n 15) (spec_l14Made_Ls n) spec_l14Made_ann n spec_l14Made_3_c (spec_l14Made_3_sp n) := ⟨mkSpec_dec (fun y => rfl), fun c x => by kernel_rfl, fun K J c x => by kernel_rfl⟩
theorem spec_l14Made_tie (n : Nat) (who0 : ByteArray) (many1 : Int) : evF (T := T) (Phi n 15) (spec_l14Made_Ls n) spec_l14Made_ann n Try.f110 (sg 110) [vA T 9 who0, vA T 3 many1] spec_l14Made_dec = spec_l14Made n who0 many1 := by kernel_rfl
theorem spec_l14Made_lo (n : Nat) : LoopsOk (T := T) (Phi n 15) (spec_l14Made_Ls n) spec_l14Made_ann n spec_l14Made_code := loopsOk_all (cs := [spec_l14Made_3_c]) (by kernel_rfl) ⟨⟨_, by kernel_rfl, spec_l14Made_3_le n⟩, trivial⟩
theorem spec_l14Made_ok (n : Nat) : EntOk Try.prog (ents n) (spec_l14Made_ent n) := by
  intro hs ar y hg h
  replace h : spec_l14Made_D n ar = some y := h
  unfold spec_l14Made_D at h
  replace h := ocons_some h
  obtain ⟨a0, r0, rfl, h⟩ := h
  replace h := ocons_some h
  obtain ⟨a1, r1, rfl, h⟩ := h
  replace h := onil_some h
  obtain ⟨rfl, h⟩ := h
  obtain ⟨who0, qh0, h⟩ := obind_some h
  obtain ⟨many1, qh1, h⟩ := obind_some h
  rw [argV_eq ok qh0, argV_eq ok qh1]
  exact call_of (phiE_nat _ _) hs ok mixed Try.func110 (c := spec_l14Made_code) (by kernel_rfl) (spec_l14Made_lo n) (by kernel_rfl) (by kernel_rfl) (by kernel_rfl) spec_l14Made_de ((spec_l14Made_tie n who0 many1).trans h)
noncomputable def spec_l9Has_code : Code := match Try.f111.body with | some c => c | none => .skip
def spec_l9Has_2_sv : List Sv := [.one (.arr 3), .one (.int .i64), .one (.int .i64)]
def spec_l9Has_2_so : List So := []
def spec_l9Has_2_emb (c : List Int × Int) (x : Int) : EVs T spec_l9Has_2_sv × EOs T spec_l9Has_2_so := ((c.1, c.2, x, ()), ())
def spec_l9Has_2_prj (y : EVs T spec_l9Has_2_sv × EOs T spec_l9Has_2_so) : (List Int × Int) × Int := ((y.1.1, y.1.2.1), (y.1.2.2.1))
def spec_l9Has_2_b (n : Nat) {R : Type} (K : Ex → Sm.St T → Option R) (c : List Int × Int) (x : Int) (J : Int → Option R) : Option R :=
  spec_l9Has_L2 n (K (.exit 0) (stOf (T := T) [] [] [] [] () ())) (fun (y0 : Bool) => K .ret (stOf (T := T) [4] [] [.one (.bool)] [] (y0, ()) ())) J c.1 c.2 x
def spec_l9Has_2_sp (n : Nat) : LSpec T := mkSpec T ⟨[], [0, 1, 5], []⟩ spec_l9Has_2_sv spec_l9Has_2_so (List Int × Int) (Int) spec_l9Has_2_emb spec_l9Has_2_prj (spec_l9Has_2_b n)
noncomputable def spec_l9Has_2_c : Code := ((loopCodes spec_l9Has_code)[0]?).getD .skip
def spec_l9Has_ann : Ann := fun id => bif Nat.beq id 3000002 then some ⟨[], [], []⟩ else bif Nat.beq id 2000002 then some ⟨[], [4], []⟩ else none
def spec_l9Has_Ls (n : Nat) : Nat → Option (LSpec T) := fun id => bif Nat.beq id 2 then some (spec_l9Has_2_sp n) else none
theorem spec_l9Has_2_le (n : Nat) : LoopEq (T := T) (Phi n 16) (spec_l9Has_Ls n) spec_l9Has_ann n spec_l9Has_2_c (spec_l9Has_2_sp n) := ⟨mkSpec_dec (fun y => rfl), fun c x => by kernel_rfl, fun K J c x => by kernel_rfl⟩
theorem spec_l9Has_tie (n : Nat) (list0 : List Int) (x1 : Int) : evF (T := T) (Phi n 16) (spec_l9Has_Ls n) spec_l9Has_ann n Try.f111 (sg 111) [vA T 24 list0, vA T 3 x1] spec_l9Has_dec = spec_l9Has n list0 x1 := by kernel_rfl
theorem spec_l9Has_lo (n : Nat) : LoopsOk (T := T) (Phi n 16) (spec_l9Has_Ls n) spec_l9Has_ann n spec_l9Has_code := loopsOk_all (cs := [spec_l9Has_2_c]) (by kernel_rfl) ⟨⟨_, by kernel_rfl, spec_l9Has_2_le n⟩, trivial⟩
theorem spec_l9Has_ok (n : Nat) : EntOk Try.prog (ents n) (spec_l9Has_ent n) := by
  intro hs ar y hg h
  replace h : spec_l9Has_D n ar = some y := h
  unfold spec_l9Has_D at h
  replace h := ocons_some h
  obtain ⟨a0, r0, rfl, h⟩ := h
  replace h := ocons_some h
  obtain ⟨a1, r1, rfl, h⟩ := h
  replace h := onil_some h
  obtain ⟨rfl, h⟩ := h
  obtain ⟨list0, qh0, h⟩ := obind_some h
  obtain ⟨x1, qh1, h⟩ := obind_some h
  rw [argV_eq ok qh0, argV_eq ok qh1]
  exact call_of (phiE_nat _ _) hs ok mixed Try.func111 (c := spec_l9Has_code) (by kernel_rfl) (spec_l9Has_lo n) (by kernel_rfl) (by kernel_rfl) (by kernel_rfl) spec_l9Has_de ((spec_l9Has_tie n list0 x1).trans h)
noncomputable def spec_l14Holds_code : Code := match Try.f175.body with | some c => c | none => .skip
def spec_l14Holds_3_sv : List Sv := [.one (.str), .one (.ptr 16 0 0), .one (.int .i64), .one (.int .i64)]
def spec_l14Holds_3_so : List So := [.var [.int .i64, .str, .str, .int .i64, .arr 9]]
def spec_l14Holds_3_emb (c : ByteArray × SBill) (x : Int × Int) : EVs T spec_l14Holds_3_sv × EOs T spec_l14Holds_3_so := ((c.1, (), x.1, x.2, ()), ((c.2.Id, c.2.Shipper, c.2.Order, c.2.Many, c.2.Held, ()), ()))
def spec_l14Holds_3_prj (y : EVs T spec_l14Holds_3_sv × EOs T spec_l14Holds_3_so) : (ByteArray × SBill) × (Int × Int) := ((y.1.1, ((⟨y.2.1.1, y.2.1.2.1, y.2.1.2.2.1, y.2.1.2.2.2.1, y.2.1.2.2.2.2.1⟩ : SBill) : SBill)), (y.1.2.2.1, y.1.2.2.2.1))
def spec_l14Holds_3_b (n : Nat) {R : Type} (K : Ex → Sm.St T → Option R) (c : ByteArray × SBill) (x : Int × Int) (J : (Int × Int) → Option R) : Option R :=
  spec_l14Holds_L3 n (fun (y0 : Int) => K (.exit 0) (stOf (T := T) [5] [] [.one (.int .i64)] [] (y0, ()) ())) (fun z0 z1 => J (z0, z1)) c.1 x.1 x.2 c.2
def spec_l14Holds_3_sp (n : Nat) : LSpec T := mkSpec T ⟨[], [1, 2, 5, 6], [16]⟩ spec_l14Holds_3_sv spec_l14Holds_3_so (ByteArray × SBill) (Int × Int) spec_l14Holds_3_emb spec_l14Holds_3_prj (spec_l14Holds_3_b n)
noncomputable def spec_l14Holds_3_c : Code := ((loopCodes spec_l14Holds_code)[0]?).getD .skip
def spec_l14Holds_ann : Ann := fun id => bif Nat.beq id 3000003 then some ⟨[], [5], []⟩ else none
def spec_l14Holds_Ls (n : Nat) : Nat → Option (LSpec T) := fun id => bif Nat.beq id 3 then some (spec_l14Holds_3_sp n) else none
theorem spec_l14Holds_3_le (n : Nat) : LoopEq (T := T) (Phi n 17) (spec_l14Holds_Ls n) spec_l14Holds_ann n spec_l14Holds_3_c (spec_l14Holds_3_sp n) := ⟨mkSpec_dec (fun y => rfl), fun c x => by kernel_rfl, fun K J c x => by kernel_rfl⟩
theorem spec_l14Holds_tie (n : Nat) (x0 : SBill) (who1 : ByteArray) : evF (T := T) (Phi n 17) (spec_l14Holds_Ls n) spec_l14Holds_ann n Try.f175 (sg 175) [vA T 84 x0, vA T 9 who1] spec_l14Holds_dec = spec_l14Holds n x0 who1 := by kernel_rfl
theorem spec_l14Holds_lo (n : Nat) : LoopsOk (T := T) (Phi n 17) (spec_l14Holds_Ls n) spec_l14Holds_ann n spec_l14Holds_code := loopsOk_all (cs := [spec_l14Holds_3_c]) (by kernel_rfl) ⟨⟨_, by kernel_rfl, spec_l14Holds_3_le n⟩, trivial⟩
theorem spec_l14Holds_ok (n : Nat) : EntOk Try.prog (ents n) (spec_l14Holds_ent n) := by
  intro hs ar y hg h
  replace h : spec_l14Holds_D n ar = some y := h
  unfold spec_l14Holds_D at h
  replace h := ocons_some h
  obtain ⟨a0, r0, rfl, h⟩ := h
  replace h := ocons_some h
  obtain ⟨a1, r1, rfl, h⟩ := h
  replace h := onil_some h
  obtain ⟨rfl, h⟩ := h
  obtain ⟨x0, qh0, h⟩ := obind_some h
  obtain ⟨who1, qh1, h⟩ := obind_some h
  rw [argV_eq ok qh0, argV_eq ok qh1]
  exact call_of (phiE_nat _ _) hs ok mixed Try.func175 (c := spec_l14Holds_code) (by kernel_rfl) (spec_l14Holds_lo n) (by kernel_rfl) (by kernel_rfl) (by kernel_rfl) spec_l14Holds_de ((spec_l14Holds_tie n x0 who1).trans h)
noncomputable def spec_l14Do_code : Code := match Try.f112.body with | some c => c | none => .skip
def spec_l14Do_ann : Ann := fun id => none
def spec_l14Do_Ls (n : Nat) : Nat → Option (LSpec T) := fun id => none
theorem spec_l14Do_tie (n : Nat) (x0 : SBill) (op1 : SBillOp) : evF (T := T) (Phi n 18) (spec_l14Do_Ls n) spec_l14Do_ann n Try.f112 (sg 112) [vA T 84 x0, vA T 72 op1] spec_l14Do_dec = spec_l14Do n x0 op1 := by kernel_rfl
theorem spec_l14Do_lo (n : Nat) : LoopsOk (T := T) (Phi n 18) (spec_l14Do_Ls n) spec_l14Do_ann n spec_l14Do_code := loopsOk_all (cs := []) (by kernel_rfl) trivial
theorem spec_l14Do_ok (n : Nat) : EntOk Try.prog (ents n) (spec_l14Do_ent n) := by
  intro hs ar y hg h
  replace h : spec_l14Do_D n ar = some y := h
  unfold spec_l14Do_D at h
  replace h := ocons_some h
  obtain ⟨a0, r0, rfl, h⟩ := h
  replace h := ocons_some h
  obtain ⟨a1, r1, rfl, h⟩ := h
  replace h := onil_some h
  obtain ⟨rfl, h⟩ := h
  obtain ⟨x0, qh0, h⟩ := obind_some h
  obtain ⟨op1, qh1, h⟩ := obind_some h
  rw [argV_eq ok qh0, argV_eq ok qh1]
  exact call_of (phiE_nat _ _) hs ok mixed Try.func112 (c := spec_l14Do_code) (by kernel_rfl) (spec_l14Do_lo n) (by kernel_rfl) (by kernel_rfl) (by kernel_rfl) spec_l14Do_de ((spec_l14Do_tie n x0 op1).trans h)
noncomputable def spec_DoBill_code : Code := match Try.f40.body with | some c => c | none => .skip
def spec_DoBill_9_sv : List Sv := [.one (.ptr 24 0 0), .one (.ptr 32 0 0), .one (.ptr 48 0 0), .one (.int .i64)]
def spec_DoBill_9_so : List So := [.var [.int .i64, .int .i64, .str, .str, .int .i64, .int .i64], .var [.own 3000000 84 false, .own 3000001 3 false], .arr 84 false, .arr 3 false, .var [.own 3000002 84 false, .own 3000003 3 false], .arr 84 false, .arr 3 false]
def spec_DoBill_9_emb (c : SBillOp × List SBill × List Int × List SBill × List Int) (x : Int) : EVs T spec_DoBill_9_sv × EOs T spec_DoBill_9_so := (((), (), (), x, ()), ((c.1.Kind, c.1.Id, c.1.Who, c.1.To, c.1.Number, c.1.Many, ()), ((), (), ()), c.2.1, c.2.2.1, ((), (), ()), c.2.2.2.1, c.2.2.2.2, ()))
def spec_DoBill_9_prj (y : EVs T spec_DoBill_9_sv × EOs T spec_DoBill_9_so) : (SBillOp × List SBill × List Int × List SBill × List Int) × Int := ((((⟨y.2.1.1, y.2.1.2.1, y.2.1.2.2.1, y.2.1.2.2.2.1, y.2.1.2.2.2.2.1, y.2.1.2.2.2.2.2.1⟩ : SBillOp) : SBillOp), y.2.2.2.1, y.2.2.2.2.1, y.2.2.2.2.2.2.1, y.2.2.2.2.2.2.2.1), (y.1.2.2.2.1))
def spec_DoBill_9_b (n : Nat) {R : Type} (K : Ex → Sm.St T → Option R) (c : SBillOp × List SBill × List Int × List SBill × List Int) (x : Int) (J : Int → Option R) : Option R :=
  spec_DoBill_L9 n (fun (y0 : Int) => K (.exit 0) (stOf (T := T) [3, 4, 6, 8] [24, 32, 3000000, 3000001, 48, 3000002, 3000003] [.one (.ptr 24 0 0), .one (.ptr 32 0 0), .one (.ptr 48 0 0), .one (.int .i64)] [.var [.int .i64, .int .i64, .str, .str, .int .i64, .int .i64], .var [.own 3000000 84 false, .own 3000001 3 false], .arr 84 false, .arr 3 false, .var [.own 3000002 84 false, .own 3000003 3 false], .arr 84 false, .arr 3 false] ((), (), (), y0, ()) ((c.1.Kind, c.1.Id, c.1.Who, c.1.To, c.1.Number, c.1.Many, ()), ((), (), ()), c.2.1, c.2.2.1, ((), (), ()), c.2.2.2.1, c.2.2.2.2, ()))) J x c.1 c.2.1 c.2.2.1 c.2.2.2.1 c.2.2.2.2
def spec_DoBill_9_sp (n : Nat) : LSpec T := mkSpec T ⟨[((.cell 32 0), 3000000, 84), ((.cell 32 1), 3000001, 3), ((.cell 48 0), 3000002, 84), ((.cell 48 1), 3000003, 3)], [3, 4, 6, 8], [24, 32, 3000000, 3000001, 48, 3000002, 3000003]⟩ spec_DoBill_9_sv spec_DoBill_9_so (SBillOp × List SBill × List Int × List SBill × List Int) (Int) spec_DoBill_9_emb spec_DoBill_9_prj (spec_DoBill_9_b n)
noncomputable def spec_DoBill_9_c : Code := ((loopCodes spec_DoBill_code)[0]?).getD .skip
def spec_DoBill_25_sv : List Sv := [.one (.ptr 24 0 0), .one (.ptr 32 0 0), .one (.ptr 48 0 0), .one (.int .i64)]
def spec_DoBill_25_so : List So := [.var [.int .i64, .int .i64, .str, .str, .int .i64, .int .i64], .var [.own 3000000 84 false, .own 3000001 3 false], .arr 84 false, .arr 3 false, .var [.own 3000002 84 false, .own 3000003 3 false], .arr 84 false, .arr 3 false]
def spec_DoBill_25_emb (c : SBillOp × List SBill × List Int × List SBill × List Int) (x : Int) : EVs T spec_DoBill_25_sv × EOs T spec_DoBill_25_so := (((), (), (), x, ()), ((c.1.Kind, c.1.Id, c.1.Who, c.1.To, c.1.Number, c.1.Many, ()), ((), (), ()), c.2.1, c.2.2.1, ((), (), ()), c.2.2.2.1, c.2.2.2.2, ()))
def spec_DoBill_25_prj (y : EVs T spec_DoBill_25_sv × EOs T spec_DoBill_25_so) : (SBillOp × List SBill × List Int × List SBill × List Int) × Int := ((((⟨y.2.1.1, y.2.1.2.1, y.2.1.2.2.1, y.2.1.2.2.2.1, y.2.1.2.2.2.2.1, y.2.1.2.2.2.2.2.1⟩ : SBillOp) : SBillOp), y.2.2.2.1, y.2.2.2.2.1, y.2.2.2.2.2.2.1, y.2.2.2.2.2.2.2.1), (y.1.2.2.2.1))
def spec_DoBill_25_b (n : Nat) {R : Type} (K : Ex → Sm.St T → Option R) (c : SBillOp × List SBill × List Int × List SBill × List Int) (x : Int) (J : Int → Option R) : Option R :=
  spec_DoBill_L25 n (fun (y0 : Int) => K (.exit 2) (stOf (T := T) [3, 4, 6, 13] [24, 32, 3000000, 3000001, 48, 3000002, 3000003] [.one (.ptr 24 0 0), .one (.ptr 32 0 0), .one (.ptr 48 0 0), .one (.int .i64)] [.var [.int .i64, .int .i64, .str, .str, .int .i64, .int .i64], .var [.own 3000000 84 false, .own 3000001 3 false], .arr 84 false, .arr 3 false, .var [.own 3000002 84 false, .own 3000003 3 false], .arr 84 false, .arr 3 false] ((), (), (), y0, ()) ((c.1.Kind, c.1.Id, c.1.Who, c.1.To, c.1.Number, c.1.Many, ()), ((), (), ()), c.2.1, c.2.2.1, ((), (), ()), c.2.2.2.1, c.2.2.2.2, ()))) J x c.1 c.2.1 c.2.2.1 c.2.2.2.1 c.2.2.2.2
def spec_DoBill_25_sp (n : Nat) : LSpec T := mkSpec T ⟨[((.cell 32 0), 3000000, 84), ((.cell 32 1), 3000001, 3), ((.cell 48 0), 3000002, 84), ((.cell 48 1), 3000003, 3)], [3, 4, 6, 13], [24, 32, 3000000, 3000001, 48, 3000002, 3000003]⟩ spec_DoBill_25_sv spec_DoBill_25_so (SBillOp × List SBill × List Int × List SBill × List Int) (Int) spec_DoBill_25_emb spec_DoBill_25_prj (spec_DoBill_25_b n)
noncomputable def spec_DoBill_25_c : Code := ((loopCodes spec_DoBill_code)[1]?).getD .skip
def spec_DoBill_ann : Ann := fun id => bif Nat.beq id 3000009 then some ⟨[((.cell 32 0), 3000000, 84), ((.cell 32 1), 3000001, 3), ((.cell 48 0), 3000002, 84), ((.cell 48 1), 3000003, 3)], [3, 4, 6, 8], [24, 32, 3000000, 3000001, 48, 3000002, 3000003]⟩ else bif Nat.beq id 5000025 then some ⟨[((.cell 32 0), 3000000, 84), ((.cell 32 1), 3000001, 3), ((.cell 48 0), 3000002, 84), ((.cell 48 1), 3000003, 3)], [3, 4, 6, 13], [24, 32, 3000000, 3000001, 48, 3000002, 3000003]⟩ else none
def spec_DoBill_Ls (n : Nat) : Nat → Option (LSpec T) := fun id => bif Nat.beq id 9 then some (spec_DoBill_9_sp n) else bif Nat.beq id 25 then some (spec_DoBill_25_sp n) else none
theorem spec_DoBill_9_le (n : Nat) : LoopEq (T := T) (Phi n 19) (spec_DoBill_Ls n) spec_DoBill_ann n spec_DoBill_9_c (spec_DoBill_9_sp n) := ⟨mkSpec_dec (fun y => rfl), fun c x => by kernel_rfl, fun K J c x => by kernel_rfl⟩
theorem spec_DoBill_25_le (n : Nat) : LoopEq (T := T) (Phi n 19) (spec_DoBill_Ls n) spec_DoBill_ann n spec_DoBill_25_c (spec_DoBill_25_sp n) := ⟨mkSpec_dec (fun y => rfl), fun c x => by kernel_rfl, fun K J c x => by kernel_rfl⟩
theorem spec_DoBill_tie (n : Nat) (b0 : SBook) (op1 : SBillOp) : evF (T := T) (Phi n 19) (spec_DoBill_Ls n) spec_DoBill_ann n Try.f40 (sg 40) [vA T 68 b0, vA T 72 op1] spec_DoBill_dec = spec_DoBill n b0 op1 := by kernel_rfl
theorem spec_DoBill_lo (n : Nat) : LoopsOk (T := T) (Phi n 19) (spec_DoBill_Ls n) spec_DoBill_ann n spec_DoBill_code := loopsOk_all (cs := [spec_DoBill_9_c, spec_DoBill_25_c]) (by kernel_rfl) ⟨⟨_, by kernel_rfl, spec_DoBill_9_le n⟩, ⟨_, by kernel_rfl, spec_DoBill_25_le n⟩, trivial⟩
theorem spec_DoBill_ok (n : Nat) : EntOk Try.prog (ents n) (spec_DoBill_ent n) := by
  intro hs ar y hg h
  replace h : spec_DoBill_D n ar = some y := h
  unfold spec_DoBill_D at h
  replace h := ocons_some h
  obtain ⟨a0, r0, rfl, h⟩ := h
  replace h := ocons_some h
  obtain ⟨a1, r1, rfl, h⟩ := h
  replace h := onil_some h
  obtain ⟨rfl, h⟩ := h
  obtain ⟨b0, qh0, h⟩ := obind_some h
  obtain ⟨op1, qh1, h⟩ := obind_some h
  rw [argV_eq ok qh0, argV_eq ok qh1]
  exact call_of (phiE_nat _ _) hs ok mixed Try.func40 (c := spec_DoBill_code) (by kernel_rfl) (spec_DoBill_lo n) (by kernel_rfl) (by kernel_rfl) (by kernel_rfl) spec_DoBill_de ((spec_DoBill_tie n b0 op1).trans h)
noncomputable def spec_l14Draw_code : Code := match Try.f131.body with | some c => c | none => .skip
def spec_l14Draw_3_sv : List Sv := [.one (.ptr 4503599627370496 0 0), .one (.ptr 16 0 0), .one (.ptr 24 0 0), .one (.int .i64)]
def spec_l14Draw_3_so : List So := [.var [.arr 5, .int .i64, .int .i64], .var [.own 3000000 84 false, .own 3000001 3 false], .arr 84 false, .arr 3 false, .var [.own 3000002 84 false, .own 3000003 3 false], .arrS 84, .arrS 3]
def spec_l14Draw_3_emb (c : List SBill × List Int) (x : Int × Sl1Cur × List SBill × List Int) : EVs T spec_l14Draw_3_sv × EOs T spec_l14Draw_3_so := (((), (), (), x.1, ()), ((x.2.1.b, x.2.1.i, x.2.1.h, ()), ((), (), ()), c.1, c.2, ((), (), ()), x.2.2.1, x.2.2.2, ()))
def spec_l14Draw_3_prj (y : EVs T spec_l14Draw_3_sv × EOs T spec_l14Draw_3_so) : (List SBill × List Int) × (Int × Sl1Cur × List SBill × List Int) := ((y.2.2.2.1, y.2.2.2.2.1), (y.1.2.2.2.1, ((⟨y.2.1.1, y.2.1.2.1, y.2.1.2.2.1⟩ : Sl1Cur) : Sl1Cur), y.2.2.2.2.2.2.1, y.2.2.2.2.2.2.2.1))
def spec_l14Draw_3_b (n : Nat) {R : Type} (K : Ex → Sm.St T → Option R) (c : List SBill × List Int) (x : Int × Sl1Cur × List SBill × List Int) (J : (Int × Sl1Cur × List SBill × List Int) → Option R) : Option R :=
  spec_l14Draw_L3 n (fun (y2 : List SBill) (y3 : List Int) (y4 : Sl1Cur) => K (.exit 0) (stOf (T := T) [2, 3] [16, 3000000, 3000001, 24, 3000002, 3000003, 4503599627370496] [.one (.ptr 16 0 0), .one (.ptr 24 0 0)] [.var [.own 3000000 84 false, .own 3000001 3 false], .arr 84 false, .arr 3 false, .var [.own 3000002 84 false, .own 3000003 3 false], .arrS 84, .arrS 3, .var [.arr 5, .int .i64, .int .i64]] ((), (), ()) (((), (), ()), c.1, c.2, ((), (), ()), y2, y3, (y4.b, y4.i, y4.h, ()), ()))) (fun z0 z1 z2 z3 => J (z0, z1, z2, z3)) x.1 x.2.1 c.1 c.2 x.2.2.1 x.2.2.2
def spec_l14Draw_3_sp (n : Nat) : LSpec T := mkSpec T ⟨[((.cell 16 0), 3000000, 84), ((.cell 16 1), 3000001, 3), ((.cell 24 0), 3000002, 84), ((.cell 24 1), 3000003, 3), ((.cell 24 0), 0, 999998), ((.cell 24 1), 0, 999998)], [0, 2, 3, 4], [4503599627370496, 16, 3000000, 3000001, 24, 3000002, 3000003]⟩ spec_l14Draw_3_sv spec_l14Draw_3_so (List SBill × List Int) (Int × Sl1Cur × List SBill × List Int) spec_l14Draw_3_emb spec_l14Draw_3_prj (spec_l14Draw_3_b n)
noncomputable def spec_l14Draw_3_c : Code := ((loopCodes spec_l14Draw_code)[0]?).getD .skip
def spec_l14Draw_ann : Ann := fun id => bif Nat.beq id 3000003 then some ⟨[((.cell 16 0), 3000000, 84), ((.cell 16 1), 3000001, 3), ((.cell 24 0), 3000002, 84), ((.cell 24 1), 3000003, 3)], [2, 3], [16, 3000000, 3000001, 24, 3000002, 3000003, 4503599627370496]⟩ else none
def spec_l14Draw_Ls (n : Nat) : Nat → Option (LSpec T) := fun id => bif Nat.beq id 3 then some (spec_l14Draw_3_sp n) else none
theorem spec_l14Draw_3_le (n : Nat) : LoopEq (T := T) (Phi n 20) (spec_l14Draw_Ls n) spec_l14Draw_ann n spec_l14Draw_3_c (spec_l14Draw_3_sp n) := ⟨mkSpec_dec (fun y => rfl), fun c x => by kernel_rfl, fun K J c x => by kernel_rfl⟩
theorem spec_l14Draw_tie (n : Nat) (c0 : Sl1Cur) : evF (T := T) (Phi n 20) (spec_l14Draw_Ls n) spec_l14Draw_ann n Try.f131 (sg 131) [.ptr 184 c0] spec_l14Draw_dec = spec_l14Draw n c0 := by kernel_rfl
theorem spec_l14Draw_lo (n : Nat) : LoopsOk (T := T) (Phi n 20) (spec_l14Draw_Ls n) spec_l14Draw_ann n spec_l14Draw_code := loopsOk_all (cs := [spec_l14Draw_3_c]) (by kernel_rfl) ⟨⟨_, by kernel_rfl, spec_l14Draw_3_le n⟩, trivial⟩
theorem spec_l14Draw_ok (n : Nat) : EntOk Try.prog (ents n) (spec_l14Draw_ent n) := by
  intro hs ar y hg h
  replace h : spec_l14Draw_D n ar = some y := h
  unfold spec_l14Draw_D at h
  replace h := ocons_some h
  obtain ⟨a0, r0, rfl, h⟩ := h
  replace h := onil_some h
  obtain ⟨rfl, h⟩ := h
  obtain ⟨c0, qh0, h⟩ := obind_some h
  rw [argP_eq qh0]
  exact call_of (phiE_nat _ _) hs ok mixed Try.func131 (c := spec_l14Draw_code) (by kernel_rfl) (spec_l14Draw_lo n) (by kernel_rfl) (by kernel_rfl) (by kernel_rfl) spec_l14Draw_de ((spec_l14Draw_tie n c0).trans h)
noncomputable def spec_DrawBook_code : Code := match Try.f47.body with | some c => c | none => .skip
def spec_DrawBook_5_sv : List Sv := [.one (.ptr 16 0 0), .one (.ptr 72 0 0), .one (.ptr 40 0 0), .one (.own 3000000 72 false), .one (.int .i64)]
def spec_DrawBook_5_so : List So := [.var [.own 3000001 84 false, .own 3000002 3 false], .arr 84 false, .arr 3 false, .var [.arr 5, .int .i64, .int .i64], .var [.own 3000003 84 false, .own 3000004 3 false], .arrS 84, .arrS 3, .arr 72 false]
def spec_DrawBook_5_emb (c : List SBill × List Int × List SBill × List Int) (x : Int × Sl1Cur × List SBillOp) : EVs T spec_DrawBook_5_sv × EOs T spec_DrawBook_5_so := (((), (), (), (), x.1, ()), (((), (), ()), c.1, c.2.1, (x.2.1.b, x.2.1.i, x.2.1.h, ()), ((), (), ()), c.2.2.1, c.2.2.2, x.2.2, ()))
def spec_DrawBook_5_prj (y : EVs T spec_DrawBook_5_sv × EOs T spec_DrawBook_5_so) : (List SBill × List Int × List SBill × List Int) × (Int × Sl1Cur × List SBillOp) := ((y.2.2.1, y.2.2.2.1, y.2.2.2.2.2.2.1, y.2.2.2.2.2.2.2.1), (y.1.2.2.2.2.1, ((⟨y.2.2.2.2.1.1, y.2.2.2.2.1.2.1, y.2.2.2.2.1.2.2.1⟩ : Sl1Cur) : Sl1Cur), y.2.2.2.2.2.2.2.2.1))
def spec_DrawBook_5_b (n : Nat) {R : Type} (K : Ex → Sm.St T → Option R) (c : List SBill × List Int × List SBill × List Int) (x : Int × Sl1Cur × List SBillOp) (J : (Int × Sl1Cur × List SBillOp) → Option R) : Option R :=
  spec_DrawBook_L5 n (fun (y4 : List SBillOp) => K (.exit 0) (stOf (T := T) [2, 5, 6] [16, 3000001, 3000002, 40, 3000003, 3000004, 3000000] [.one (.ptr 16 0 0), .one (.ptr 40 0 0), .one (.own 3000000 72 false)] [.var [.own 3000001 84 false, .own 3000002 3 false], .arr 84 false, .arr 3 false, .var [.own 3000003 84 false, .own 3000004 3 false], .arrS 84, .arrS 3, .arr 72 false] ((), (), (), ()) (((), (), ()), c.1, c.2.1, ((), (), ()), c.2.2.1, c.2.2.2, y4, ()))) (fun z0 z1 z2 => J (z0, z1, z2)) x.1 c.1 c.2.1 x.2.1 c.2.2.1 c.2.2.2 x.2.2
def spec_DrawBook_5_sp (n : Nat) : LSpec T := mkSpec T ⟨[((.reg 6), 3000000, 72), ((.cell 16 0), 3000001, 84), ((.cell 16 1), 3000002, 3), ((.cell 40 0), 3000003, 84), ((.cell 40 1), 3000004, 3)], [2, 4, 5, 6, 7], [16, 3000001, 3000002, 72, 40, 3000003, 3000004, 3000000]⟩ spec_DrawBook_5_sv spec_DrawBook_5_so (List SBill × List Int × List SBill × List Int) (Int × Sl1Cur × List SBillOp) spec_DrawBook_5_emb spec_DrawBook_5_prj (spec_DrawBook_5_b n)
noncomputable def spec_DrawBook_5_c : Code := ((loopCodes spec_DrawBook_code)[0]?).getD .skip
def spec_DrawBook_ann : Ann := fun id => bif Nat.beq id 3000005 then some ⟨[((.reg 6), 3000000, 72), ((.cell 16 0), 3000001, 84), ((.cell 16 1), 3000002, 3), ((.cell 40 0), 3000003, 84), ((.cell 40 1), 3000004, 3)], [2, 5, 6], [16, 3000001, 3000002, 40, 3000003, 3000004, 3000000]⟩ else none
def spec_DrawBook_Ls (n : Nat) : Nat → Option (LSpec T) := fun id => bif Nat.beq id 5 then some (spec_DrawBook_5_sp n) else none
theorem spec_DrawBook_5_le (n : Nat) : LoopEq (T := T) (Phi n 21) (spec_DrawBook_Ls n) spec_DrawBook_ann n spec_DrawBook_5_c (spec_DrawBook_5_sp n) := ⟨mkSpec_dec (fun y => rfl), fun c x => by kernel_rfl, fun K J c x => by kernel_rfl⟩
theorem spec_DrawBook_tie (n : Nat) (code0 : List Int) : evF (T := T) (Phi n 21) (spec_DrawBook_Ls n) spec_DrawBook_ann n Try.f47 (sg 47) [vA T 34 code0] spec_DrawBook_dec = spec_DrawBook n code0 := by kernel_rfl
theorem spec_DrawBook_lo (n : Nat) : LoopsOk (T := T) (Phi n 21) (spec_DrawBook_Ls n) spec_DrawBook_ann n spec_DrawBook_code := loopsOk_all (cs := [spec_DrawBook_5_c]) (by kernel_rfl) ⟨⟨_, by kernel_rfl, spec_DrawBook_5_le n⟩, trivial⟩
theorem spec_DrawBook_ok (n : Nat) : EntOk Try.prog (ents n) (spec_DrawBook_ent n) := by
  intro hs ar y hg h
  replace h : spec_DrawBook_D n ar = some y := h
  unfold spec_DrawBook_D at h
  replace h := ocons_some h
  obtain ⟨a0, r0, rfl, h⟩ := h
  replace h := onil_some h
  obtain ⟨rfl, h⟩ := h
  obtain ⟨code0, qh0, h⟩ := obind_some h
  rw [argV_eq ok qh0]
  exact call_of (phiE_nat _ _) hs ok mixed Try.func47 (c := spec_DrawBook_code) (by kernel_rfl) (spec_DrawBook_lo n) (by kernel_rfl) (by kernel_rfl) (by kernel_rfl) spec_DrawBook_de ((spec_DrawBook_tie n code0).trans h)
noncomputable def impl_own_impl_Bill_code : Code := match Try.f177.body with | some c => c | none => .skip
def impl_own_impl_Bill_ann : Ann := fun id => none
def impl_own_impl_Bill_Ls (n : Nat) : Nat → Option (LSpec T) := fun id => none
theorem impl_own_impl_Bill_tie (n : Nat) (l0 : List SBill) : evF (T := T) (Phi n 22) (impl_own_impl_Bill_Ls n) impl_own_impl_Bill_ann n Try.f177 (sg 177) [vA T 66 l0] impl_own_impl_Bill_dec = impl_own_impl_Bill n l0 := by kernel_rfl
theorem impl_own_impl_Bill_lo (n : Nat) : LoopsOk (T := T) (Phi n 22) (impl_own_impl_Bill_Ls n) impl_own_impl_Bill_ann n impl_own_impl_Bill_code := loopsOk_all (cs := []) (by kernel_rfl) trivial
theorem impl_own_impl_Bill_ok (n : Nat) : EntOk Try.prog (ents n) (impl_own_impl_Bill_ent n) := by
  intro hs ar y hg h
  replace h : impl_own_impl_Bill_D n ar = some y := h
  unfold impl_own_impl_Bill_D at h
  replace h := ocons_some h
  obtain ⟨a0, r0, rfl, h⟩ := h
  replace h := onil_some h
  obtain ⟨rfl, h⟩ := h
  obtain ⟨l0, qh0, h⟩ := obind_some h
  rw [argV_eq ok qh0]
  exact call_of (phiE_nat _ _) hs ok mixed Try.func177 (c := impl_own_impl_Bill_code) (by kernel_rfl) (impl_own_impl_Bill_lo n) (by kernel_rfl) (by kernel_rfl) (by kernel_rfl) impl_own_impl_Bill_de ((impl_own_impl_Bill_tie n l0).trans h)
noncomputable def impl_own_string_code : Code := match Try.f141.body with | some c => c | none => .skip
def impl_own_string_ann : Ann := fun id => none
def impl_own_string_Ls (n : Nat) : Nat → Option (LSpec T) := fun id => none
theorem impl_own_string_tie (n : Nat) (l0 : List ByteArray) : evF (T := T) (Phi n 23) (impl_own_string_Ls n) impl_own_string_ann n Try.f141 (sg 141) [vA T 82 l0] impl_own_string_dec = impl_own_string n l0 := by kernel_rfl
theorem impl_own_string_lo (n : Nat) : LoopsOk (T := T) (Phi n 23) (impl_own_string_Ls n) impl_own_string_ann n impl_own_string_code := loopsOk_all (cs := []) (by kernel_rfl) trivial
theorem impl_own_string_ok (n : Nat) : EntOk Try.prog (ents n) (impl_own_string_ent n) := by
  intro hs ar y hg h
  replace h : impl_own_string_D n ar = some y := h
  unfold impl_own_string_D at h
  replace h := ocons_some h
  obtain ⟨a0, r0, rfl, h⟩ := h
  replace h := onil_some h
  obtain ⟨rfl, h⟩ := h
  obtain ⟨l0, qh0, h⟩ := obind_some h
  rw [argV_eq ok qh0]
  exact call_of (phiE_nat _ _) hs ok mixed Try.func141 (c := impl_own_string_code) (by kernel_rfl) (impl_own_string_lo n) (by kernel_rfl) (by kernel_rfl) (by kernel_rfl) impl_own_string_de ((impl_own_string_tie n l0).trans h)
noncomputable def impl_own_int_code : Code := match Try.f79.body with | some c => c | none => .skip
def impl_own_int_ann : Ann := fun id => none
def impl_own_int_Ls (n : Nat) : Nat → Option (LSpec T) := fun id => none
theorem impl_own_int_tie (n : Nat) (l0 : List Int) : evF (T := T) (Phi n 24) (impl_own_int_Ls n) impl_own_int_ann n Try.f79 (sg 79) [vA T 24 l0] impl_own_int_dec = impl_own_int n l0 := by kernel_rfl
theorem impl_own_int_lo (n : Nat) : LoopsOk (T := T) (Phi n 24) (impl_own_int_Ls n) impl_own_int_ann n impl_own_int_code := loopsOk_all (cs := []) (by kernel_rfl) trivial
theorem impl_own_int_ok (n : Nat) : EntOk Try.prog (ents n) (impl_own_int_ent n) := by
  intro hs ar y hg h
  replace h : impl_own_int_D n ar = some y := h
  unfold impl_own_int_D at h
  replace h := ocons_some h
  obtain ⟨a0, r0, rfl, h⟩ := h
  replace h := onil_some h
  obtain ⟨rfl, h⟩ := h
  obtain ⟨l0, qh0, h⟩ := obind_some h
  rw [argV_eq ok qh0]
  exact call_of (phiE_nat _ _) hs ok mixed Try.func79 (c := impl_own_int_code) (by kernel_rfl) (impl_own_int_lo n) (by kernel_rfl) (by kernel_rfl) (by kernel_rfl) impl_own_int_de ((impl_own_int_tie n l0).trans h)
noncomputable def impl_Book_own_code : Code := match Try.f115.body with | some c => c | none => .skip
def impl_Book_own_3_sv : List Sv := [.one (.ptr 8 0 0), .one (.ptr 16 0 0), .one (.own 3000000 84 false), .one (.int .i64), .one (.int .i64)]
def impl_Book_own_3_so : List So := [.var [.arr 84, .arr 3], .var [.own 3000001 84 false, .own 3000002 3 false], .arr 84 false, .arr 3 false, .arrU 84 false]
def impl_Book_own_3_emb (c : Int × SBook × List SBill × List Int) (x : Int × ((List SBill) × Nat)) : EVs T impl_Book_own_3_sv × EOs T impl_Book_own_3_so := (((), (), (), c.1, x.1, ()), ((c.2.1.Bills, c.2.1.Freed, ()), ((), (), ()), c.2.2.1, c.2.2.2, x.2, ()))
def impl_Book_own_3_prj (y : EVs T impl_Book_own_3_sv × EOs T impl_Book_own_3_so) : (Int × SBook × List SBill × List Int) × (Int × ((List SBill) × Nat)) := ((y.1.2.2.2.1, ((⟨y.2.1.1, y.2.1.2.1⟩ : SBook) : SBook), y.2.2.2.1, y.2.2.2.2.1), (y.1.2.2.2.2.1, y.2.2.2.2.2.1))
def impl_Book_own_3_b (n : Nat) {R : Type} (K : Ex → Sm.St T → Option R) (c : Int × SBook × List SBill × List Int) (x : Int × ((List SBill) × Nat)) (J : (Int × ((List SBill) × Nat)) → Option R) : Option R :=
  impl_Book_own_L3 n (fun (y3 : (List SBill) × Nat) => K (.exit 0) (stOf (T := T) [1, 2, 3] [8, 16, 3000001, 3000002, 3000000] [.one (.ptr 8 0 0), .one (.ptr 16 0 0), .one (.own 3000000 84 false)] [.var [.arr 84, .arr 3], .var [.own 3000001 84 false, .own 3000002 3 false], .arr 84 false, .arr 3 false, .arrU 84 false] ((), (), (), ()) ((c.2.1.Bills, c.2.1.Freed, ()), ((), (), ()), c.2.2.1, c.2.2.2, y3, ()))) (fun z0 z1 => J (z0, z1)) c.1 x.1 c.2.1 c.2.2.1 c.2.2.2 x.2
def impl_Book_own_3_sp (n : Nat) : LSpec T := mkSpec T ⟨[((.reg 3), 3000000, 84), ((.cell 16 0), 3000001, 84), ((.cell 16 1), 3000002, 3)], [1, 2, 3, 9, 10], [8, 16, 3000001, 3000002, 3000000]⟩ impl_Book_own_3_sv impl_Book_own_3_so (Int × SBook × List SBill × List Int) (Int × ((List SBill) × Nat)) impl_Book_own_3_emb impl_Book_own_3_prj (impl_Book_own_3_b n)
noncomputable def impl_Book_own_3_c : Code := ((loopCodes impl_Book_own_code)[0]?).getD .skip
def impl_Book_own_ann : Ann := fun id => bif Nat.beq id 3000003 then some ⟨[((.reg 3), 3000000, 84), ((.cell 16 0), 3000001, 84), ((.cell 16 1), 3000002, 3)], [1, 2, 3], [8, 16, 3000001, 3000002, 3000000]⟩ else none
def impl_Book_own_Ls (n : Nat) : Nat → Option (LSpec T) := fun id => bif Nat.beq id 3 then some (impl_Book_own_3_sp n) else none
theorem impl_Book_own_3_le (n : Nat) : LoopEq (T := T) (Phi n 25) (impl_Book_own_Ls n) impl_Book_own_ann n impl_Book_own_3_c (impl_Book_own_3_sp n) := ⟨mkSpec_dec (fun y => rfl), fun c x => by kernel_rfl, fun K J c x => by kernel_rfl⟩
theorem impl_Book_own_tie (n : Nat) (b0 : SBook) : evF (T := T) (Phi n 25) (impl_Book_own_Ls n) impl_Book_own_ann n Try.f115 (sg 115) [vA T 68 b0] impl_Book_own_dec = impl_Book_own n b0 := by kernel_rfl
theorem impl_Book_own_lo (n : Nat) : LoopsOk (T := T) (Phi n 25) (impl_Book_own_Ls n) impl_Book_own_ann n impl_Book_own_code := loopsOk_all (cs := [impl_Book_own_3_c]) (by kernel_rfl) ⟨⟨_, by kernel_rfl, impl_Book_own_3_le n⟩, trivial⟩
theorem impl_Book_own_ok (n : Nat) : EntOk Try.prog (ents n) (impl_Book_own_ent n) := by
  intro hs ar y hg h
  replace h : impl_Book_own_D n ar = some y := h
  unfold impl_Book_own_D at h
  replace h := ocons_some h
  obtain ⟨a0, r0, rfl, h⟩ := h
  replace h := onil_some h
  obtain ⟨rfl, h⟩ := h
  obtain ⟨b0, qh0, h⟩ := obind_some h
  rw [argV_eq ok qh0]
  exact call_of (phiE_nat _ _) hs ok mixed Try.func115 (c := impl_Book_own_code) (by kernel_rfl) (impl_Book_own_lo n) (by kernel_rfl) (by kernel_rfl) (by kernel_rfl) impl_Book_own_de ((impl_Book_own_tie n b0).trans h)
noncomputable def impl_nameOk_code : Code := match Try.f116.body with | some c => c | none => .skip
def impl_nameOk_4_sv : List Sv := [.one (.str), .one (.int .i64), .one (.int .i64)]
def impl_nameOk_4_so : List So := []
def impl_nameOk_4_emb (c : ByteArray × Int) (x : Int) : EVs T impl_nameOk_4_sv × EOs T impl_nameOk_4_so := ((c.1, c.2, x, ()), ())
def impl_nameOk_4_prj (y : EVs T impl_nameOk_4_sv × EOs T impl_nameOk_4_so) : (ByteArray × Int) × Int := ((y.1.1, y.1.2.1), (y.1.2.2.1))
def impl_nameOk_4_b (n : Nat) {R : Type} (K : Ex → Sm.St T → Option R) (c : ByteArray × Int) (x : Int) (J : Int → Option R) : Option R :=
  impl_nameOk_L4 n (K (.exit 0) (stOf (T := T) [] [] [] [] () ())) (fun (y0 : Bool) => K .ret (stOf (T := T) [2] [] [.one (.bool)] [] (y0, ()) ())) J c.1 c.2 x
def impl_nameOk_4_sp (n : Nat) : LSpec T := mkSpec T ⟨[], [0, 14, 15], []⟩ impl_nameOk_4_sv impl_nameOk_4_so (ByteArray × Int) (Int) impl_nameOk_4_emb impl_nameOk_4_prj (impl_nameOk_4_b n)
noncomputable def impl_nameOk_4_c : Code := ((loopCodes impl_nameOk_code)[0]?).getD .skip
def impl_nameOk_ann : Ann := fun id => bif Nat.beq id 3000004 then some ⟨[], [], []⟩ else bif Nat.beq id 2000004 then some ⟨[], [2], []⟩ else none
def impl_nameOk_Ls (n : Nat) : Nat → Option (LSpec T) := fun id => bif Nat.beq id 4 then some (impl_nameOk_4_sp n) else none
theorem impl_nameOk_4_le (n : Nat) : LoopEq (T := T) (Phi n 26) (impl_nameOk_Ls n) impl_nameOk_ann n impl_nameOk_4_c (impl_nameOk_4_sp n) := ⟨mkSpec_dec (fun y => rfl), fun c x => by kernel_rfl, fun K J c x => by kernel_rfl⟩
theorem impl_nameOk_tie (n : Nat) (s0 : ByteArray) : evF (T := T) (Phi n 26) (impl_nameOk_Ls n) impl_nameOk_ann n Try.f116 (sg 116) [vA T 9 s0] impl_nameOk_dec = impl_nameOk n s0 := by kernel_rfl
theorem impl_nameOk_lo (n : Nat) : LoopsOk (T := T) (Phi n 26) (impl_nameOk_Ls n) impl_nameOk_ann n impl_nameOk_code := loopsOk_all (cs := [impl_nameOk_4_c]) (by kernel_rfl) ⟨⟨_, by kernel_rfl, impl_nameOk_4_le n⟩, trivial⟩
theorem impl_nameOk_ok (n : Nat) : EntOk Try.prog (ents n) (impl_nameOk_ent n) := by
  intro hs ar y hg h
  replace h : impl_nameOk_D n ar = some y := h
  unfold impl_nameOk_D at h
  replace h := ocons_some h
  obtain ⟨a0, r0, rfl, h⟩ := h
  replace h := onil_some h
  obtain ⟨rfl, h⟩ := h
  obtain ⟨s0, qh0, h⟩ := obind_some h
  rw [argV_eq ok qh0]
  exact call_of (phiE_nat _ _) hs ok mixed Try.func116 (c := impl_nameOk_code) (by kernel_rfl) (impl_nameOk_lo n) (by kernel_rfl) (by kernel_rfl) (by kernel_rfl) impl_nameOk_de ((impl_nameOk_tie n s0).trans h)
noncomputable def impl_in_code : Code := match Try.f87.body with | some c => c | none => .skip
def impl_in_ann : Ann := fun id => none
def impl_in_Ls (n : Nat) : Nat → Option (LSpec T) := fun id => none
theorem impl_in_tie (n : Nat) (n0 : Int) (least1 : Int) (most2 : Int) : evF (T := T) (Phi n 27) (impl_in_Ls n) impl_in_ann n Try.f87 (sg 87) [vA T 3 n0, vA T 3 least1, vA T 3 most2] impl_in_dec = impl_in n n0 least1 most2 := by kernel_rfl
theorem impl_in_lo (n : Nat) : LoopsOk (T := T) (Phi n 27) (impl_in_Ls n) impl_in_ann n impl_in_code := loopsOk_all (cs := []) (by kernel_rfl) trivial
theorem impl_in_ok (n : Nat) : EntOk Try.prog (ents n) (impl_in_ent n) := by
  intro hs ar y hg h
  replace h : impl_in_D n ar = some y := h
  unfold impl_in_D at h
  replace h := ocons_some h
  obtain ⟨a0, r0, rfl, h⟩ := h
  replace h := ocons_some h
  obtain ⟨a1, r1, rfl, h⟩ := h
  replace h := ocons_some h
  obtain ⟨a2, r2, rfl, h⟩ := h
  replace h := onil_some h
  obtain ⟨rfl, h⟩ := h
  obtain ⟨n0, qh0, h⟩ := obind_some h
  obtain ⟨least1, qh1, h⟩ := obind_some h
  obtain ⟨most2, qh2, h⟩ := obind_some h
  rw [argV_eq ok qh0, argV_eq ok qh1, argV_eq ok qh2]
  exact call_of (phiE_nat _ _) hs ok mixed Try.func87 (c := impl_in_code) (by kernel_rfl) (impl_in_lo n) (by kernel_rfl) (by kernel_rfl) (by kernel_rfl) impl_in_de ((impl_in_tie n n0 least1 most2).trans h)
noncomputable def impl_idRight_code : Code := match Try.f118.body with | some c => c | none => .skip
def impl_idRight_ann : Ann := fun id => none
def impl_idRight_Ls (n : Nat) : Nat → Option (LSpec T) := fun id => none
theorem impl_idRight_tie (n : Nat) (n0 : Int) : evF (T := T) (Phi n 28) (impl_idRight_Ls n) impl_idRight_ann n Try.f118 (sg 118) [vA T 3 n0] impl_idRight_dec = impl_idRight n n0 := by kernel_rfl
theorem impl_idRight_lo (n : Nat) : LoopsOk (T := T) (Phi n 28) (impl_idRight_Ls n) impl_idRight_ann n impl_idRight_code := loopsOk_all (cs := []) (by kernel_rfl) trivial
theorem impl_idRight_ok (n : Nat) : EntOk Try.prog (ents n) (impl_idRight_ent n) := by
  intro hs ar y hg h
  replace h : impl_idRight_D n ar = some y := h
  unfold impl_idRight_D at h
  replace h := ocons_some h
  obtain ⟨a0, r0, rfl, h⟩ := h
  replace h := onil_some h
  obtain ⟨rfl, h⟩ := h
  obtain ⟨n0, qh0, h⟩ := obind_some h
  rw [argV_eq ok qh0]
  exact call_of (phiE_nat _ _) hs ok mixed Try.func118 (c := impl_idRight_code) (by kernel_rfl) (impl_idRight_lo n) (by kernel_rfl) (by kernel_rfl) (by kernel_rfl) impl_idRight_de ((impl_idRight_tie n n0).trans h)
noncomputable def impl_emptyOrName_code : Code := match Try.f117.body with | some c => c | none => .skip
def impl_emptyOrName_ann : Ann := fun id => none
def impl_emptyOrName_Ls (n : Nat) : Nat → Option (LSpec T) := fun id => none
theorem impl_emptyOrName_tie (n : Nat) (s0 : ByteArray) : evF (T := T) (Phi n 29) (impl_emptyOrName_Ls n) impl_emptyOrName_ann n Try.f117 (sg 117) [vA T 9 s0] impl_emptyOrName_dec = impl_emptyOrName n s0 := by kernel_rfl
theorem impl_emptyOrName_lo (n : Nat) : LoopsOk (T := T) (Phi n 29) (impl_emptyOrName_Ls n) impl_emptyOrName_ann n impl_emptyOrName_code := loopsOk_all (cs := []) (by kernel_rfl) trivial
theorem impl_emptyOrName_ok (n : Nat) : EntOk Try.prog (ents n) (impl_emptyOrName_ent n) := by
  intro hs ar y hg h
  replace h : impl_emptyOrName_D n ar = some y := h
  unfold impl_emptyOrName_D at h
  replace h := ocons_some h
  obtain ⟨a0, r0, rfl, h⟩ := h
  replace h := onil_some h
  obtain ⟨rfl, h⟩ := h
  obtain ⟨s0, qh0, h⟩ := obind_some h
  rw [argV_eq ok qh0]
  exact call_of (phiE_nat _ _) hs ok mixed Try.func117 (c := impl_emptyOrName_code) (by kernel_rfl) (impl_emptyOrName_lo n) (by kernel_rfl) (by kernel_rfl) (by kernel_rfl) impl_emptyOrName_de ((impl_emptyOrName_tie n s0).trans h)
noncomputable def impl_BookOk_1_code : Code := match Try.f134.body with | some c => c | none => .skip
def impl_BookOk_1_ann : Ann := fun id => none
def impl_BookOk_1_Ls (n : Nat) : Nat → Option (LSpec T) := fun id => none
theorem impl_BookOk_1_tie (n : Nat) (s0 : ByteArray) : evF (T := T) (Phi n 30) (impl_BookOk_1_Ls n) impl_BookOk_1_ann n Try.f134 (sg 134) [vA T 9 s0] impl_BookOk_1_dec = impl_BookOk_1 n s0 := by kernel_rfl
theorem impl_BookOk_1_lo (n : Nat) : LoopsOk (T := T) (Phi n 30) (impl_BookOk_1_Ls n) impl_BookOk_1_ann n impl_BookOk_1_code := loopsOk_all (cs := []) (by kernel_rfl) trivial
theorem impl_BookOk_1_ok (n : Nat) : EntOk Try.prog (ents n) (impl_BookOk_1_ent n) := by
  intro hs ar y hg h
  replace h : impl_BookOk_1_D n ar = some y := h
  unfold impl_BookOk_1_D at h
  replace h := ocons_some h
  obtain ⟨a0, r0, rfl, h⟩ := h
  replace h := onil_some h
  obtain ⟨rfl, h⟩ := h
  obtain ⟨s0, qh0, h⟩ := obind_some h
  rw [argV_eq ok qh0]
  exact call_of (phiE_nat _ _) hs ok mixed Try.func134 (c := impl_BookOk_1_code) (by kernel_rfl) (impl_BookOk_1_lo n) (by kernel_rfl) (by kernel_rfl) (by kernel_rfl) impl_BookOk_1_de ((impl_BookOk_1_tie n s0).trans h)
noncomputable def slices_IndexFunc_string_string__impl_BookOk_1_code : Code := match Try.f183.body with | some c => c | none => .skip
def slices_IndexFunc_string_string__impl_BookOk_1_2_sv : List Sv := [.one (.arr 9), .one (.fn 134 []), .one (.int .i64), .one (.int .i64)]
def slices_IndexFunc_string_string__impl_BookOk_1_2_so : List So := []
def slices_IndexFunc_string_string__impl_BookOk_1_2_emb (c : List ByteArray × Int) (x : Int) : EVs T slices_IndexFunc_string_string__impl_BookOk_1_2_sv × EOs T slices_IndexFunc_string_string__impl_BookOk_1_2_so := ((c.1, (), c.2, x, ()), ())
def slices_IndexFunc_string_string__impl_BookOk_1_2_prj (y : EVs T slices_IndexFunc_string_string__impl_BookOk_1_2_sv × EOs T slices_IndexFunc_string_string__impl_BookOk_1_2_so) : (List ByteArray × Int) × Int := ((y.1.1, y.1.2.2.1), (y.1.2.2.2.1))
def slices_IndexFunc_string_string__impl_BookOk_1_2_b (n : Nat) {R : Type} (K : Ex → Sm.St T → Option R) (c : List ByteArray × Int) (x : Int) (J : Int → Option R) : Option R :=
  slices_IndexFunc_string_string__impl_BookOk_1_L2 n (K (.exit 0) (stOf (T := T) [] [] [] [] () ())) (fun (y0 : Int) => K .ret (stOf (T := T) [4] [] [.one (.int .i64)] [] (y0, ()) ())) J c.1 c.2 x
def slices_IndexFunc_string_string__impl_BookOk_1_2_sp (n : Nat) : LSpec T := mkSpec T ⟨[], [0, 1, 7, 8], []⟩ slices_IndexFunc_string_string__impl_BookOk_1_2_sv slices_IndexFunc_string_string__impl_BookOk_1_2_so (List ByteArray × Int) (Int) slices_IndexFunc_string_string__impl_BookOk_1_2_emb slices_IndexFunc_string_string__impl_BookOk_1_2_prj (slices_IndexFunc_string_string__impl_BookOk_1_2_b n)
noncomputable def slices_IndexFunc_string_string__impl_BookOk_1_2_c : Code := ((loopCodes slices_IndexFunc_string_string__impl_BookOk_1_code)[0]?).getD .skip
def slices_IndexFunc_string_string__impl_BookOk_1_ann : Ann := fun id => bif Nat.beq id 3000002 then some ⟨[], [], []⟩ else bif Nat.beq id 2000002 then some ⟨[], [4], []⟩ else none
def slices_IndexFunc_string_string__impl_BookOk_1_Ls (n : Nat) : Nat → Option (LSpec T) := fun id => bif Nat.beq id 2 then some (slices_IndexFunc_string_string__impl_BookOk_1_2_sp n) else none
theorem slices_IndexFunc_string_string__impl_BookOk_1_2_le (n : Nat) : LoopEq (T := T) (Phi n 31) (slices_IndexFunc_string_string__impl_BookOk_1_Ls n) slices_IndexFunc_string_string__impl_BookOk_1_ann n slices_IndexFunc_string_string__impl_BookOk_1_2_c (slices_IndexFunc_string_string__impl_BookOk_1_2_sp n) := ⟨mkSpec_dec (fun y => rfl), fun c x => by kernel_rfl, fun K J c x => by kernel_rfl⟩
theorem slices_IndexFunc_string_string__impl_BookOk_1_tie (n : Nat) (s0 : List ByteArray) : evF (T := T) (Phi n 31) (slices_IndexFunc_string_string__impl_BookOk_1_Ls n) slices_IndexFunc_string_string__impl_BookOk_1_ann n Try.f183 (sg 183) [vA T 82 s0, .fn 134 []] slices_IndexFunc_string_string__impl_BookOk_1_dec = slices_IndexFunc_string_string__impl_BookOk_1 n s0 := by kernel_rfl
theorem slices_IndexFunc_string_string__impl_BookOk_1_lo (n : Nat) : LoopsOk (T := T) (Phi n 31) (slices_IndexFunc_string_string__impl_BookOk_1_Ls n) slices_IndexFunc_string_string__impl_BookOk_1_ann n slices_IndexFunc_string_string__impl_BookOk_1_code := loopsOk_all (cs := [slices_IndexFunc_string_string__impl_BookOk_1_2_c]) (by kernel_rfl) ⟨⟨_, by kernel_rfl, slices_IndexFunc_string_string__impl_BookOk_1_2_le n⟩, trivial⟩
theorem slices_IndexFunc_string_string__impl_BookOk_1_ok (n : Nat) : EntOk Try.prog (ents n) (slices_IndexFunc_string_string__impl_BookOk_1_ent n) := by
  intro hs ar y hg h
  replace h : slices_IndexFunc_string_string__impl_BookOk_1_D n ar = some y := h
  unfold slices_IndexFunc_string_string__impl_BookOk_1_D at h
  split at h
  · obtain ⟨s0, qh0, h⟩ := obind_some h
    rw [argV_eq ok qh0] at hg ⊢
    cases (show [_] = [134] from natsEq_eq hg)
    exact call_of (phiE_nat _ _) hs ok mixed Try.func183 (c := slices_IndexFunc_string_string__impl_BookOk_1_code) (by kernel_rfl) (slices_IndexFunc_string_string__impl_BookOk_1_lo n) (by kernel_rfl) (by kernel_rfl) (by kernel_rfl) slices_IndexFunc_string_string__impl_BookOk_1_de ((slices_IndexFunc_string_string__impl_BookOk_1_tie n s0).trans h)
  · cases h
noncomputable def slices_ContainsFunc_string_string__impl_BookOk_1_code : Code := match Try.f125.body with | some c => c | none => .skip
def slices_ContainsFunc_string_string__impl_BookOk_1_ann : Ann := fun id => none
def slices_ContainsFunc_string_string__impl_BookOk_1_Ls (n : Nat) : Nat → Option (LSpec T) := fun id => none
theorem slices_ContainsFunc_string_string__impl_BookOk_1_tie (n : Nat) (s0 : List ByteArray) : evF (T := T) (Phi n 32) (slices_ContainsFunc_string_string__impl_BookOk_1_Ls n) slices_ContainsFunc_string_string__impl_BookOk_1_ann n Try.f125 (sg 125) [vA T 82 s0, .fn 134 []] slices_ContainsFunc_string_string__impl_BookOk_1_dec = slices_ContainsFunc_string_string__impl_BookOk_1 n s0 := by kernel_rfl
theorem slices_ContainsFunc_string_string__impl_BookOk_1_lo (n : Nat) : LoopsOk (T := T) (Phi n 32) (slices_ContainsFunc_string_string__impl_BookOk_1_Ls n) slices_ContainsFunc_string_string__impl_BookOk_1_ann n slices_ContainsFunc_string_string__impl_BookOk_1_code := loopsOk_all (cs := []) (by kernel_rfl) trivial
theorem slices_ContainsFunc_string_string__impl_BookOk_1_ok (n : Nat) : EntOk Try.prog (ents n) (slices_ContainsFunc_string_string__impl_BookOk_1_ent n) := by
  intro hs ar y hg h
  replace h : slices_ContainsFunc_string_string__impl_BookOk_1_D n ar = some y := h
  unfold slices_ContainsFunc_string_string__impl_BookOk_1_D at h
  split at h
  · obtain ⟨s0, qh0, h⟩ := obind_some h
    rw [argV_eq ok qh0] at hg ⊢
    cases (show [_] = [134] from natsEq_eq hg)
    exact call_of (phiE_nat _ _) hs ok mixed Try.func125 (c := slices_ContainsFunc_string_string__impl_BookOk_1_code) (by kernel_rfl) (slices_ContainsFunc_string_string__impl_BookOk_1_lo n) (by kernel_rfl) (by kernel_rfl) (by kernel_rfl) slices_ContainsFunc_string_string__impl_BookOk_1_de ((slices_ContainsFunc_string_string__impl_BookOk_1_tie n s0).trans h)
  · cases h
noncomputable def impl_BookOk_code : Code := match Try.f48.body with | some c => c | none => .skip
def impl_BookOk_5_sv : List Sv := [.one (.ptr 8 0 0), .one (.map 96), .one (.arr 84), .one (.int .i64), .one (.int .i64)]
def impl_BookOk_5_so : List So := [.var [.arr 84, .arr 3], .map 3 4]
def impl_BookOk_5_emb (c : List SBill × Int × SBook) (x : Int × (List (Int × Bool))) : EVs T impl_BookOk_5_sv × EOs T impl_BookOk_5_so := (((), (), c.1, c.2.1, x.1, ()), ((c.2.2.Bills, c.2.2.Freed, ()), x.2, ()))
def impl_BookOk_5_prj (y : EVs T impl_BookOk_5_sv × EOs T impl_BookOk_5_so) : (List SBill × Int × SBook) × (Int × (List (Int × Bool))) := ((y.1.2.2.1, y.1.2.2.2.1, ((⟨y.2.1.1, y.2.1.2.1⟩ : SBook) : SBook)), (y.1.2.2.2.2.1, y.2.2.1))
def impl_BookOk_5_b (n : Nat) {R : Type} (K : Ex → Sm.St T → Option R) (c : List SBill × Int × SBook) (x : Int × (List (Int × Bool))) (J : (Int × (List (Int × Bool))) → Option R) : Option R :=
  impl_BookOk_L5 n (fun (y1 : List (Int × Bool)) => K (.exit 0) (stOf (T := T) [1, 3] [8, 96] [.one (.ptr 8 0 0), .one (.map 96)] [.var [.arr 84, .arr 3], .map 3 4] ((), (), ()) ((c.2.2.Bills, c.2.2.Freed, ()), y1, ()))) (fun (y0 : Bool) => K .ret (stOf (T := T) [2] [] [.one (.bool)] [] (y0, ()) ())) (fun z0 z1 => J (z0, z1)) c.1 c.2.1 x.1 c.2.2 x.2
def impl_BookOk_5_sp (n : Nat) : LSpec T := mkSpec T ⟨[], [1, 3, 14, 15, 16], [8, 96]⟩ impl_BookOk_5_sv impl_BookOk_5_so (List SBill × Int × SBook) (Int × (List (Int × Bool))) impl_BookOk_5_emb impl_BookOk_5_prj (impl_BookOk_5_b n)
noncomputable def impl_BookOk_5_c : Code := ((loopCodes impl_BookOk_code)[0]?).getD .skip
def impl_BookOk_12_sv : List Sv := [.one (.ptr 8 0 0), .one (.map 96), .one (.arr 3), .one (.int .i64), .one (.int .i64)]
def impl_BookOk_12_so : List So := [.var [.arr 84, .arr 3], .map 3 4]
def impl_BookOk_12_emb (c : List Int × Int × SBook × (List (Int × Bool))) (x : Int) : EVs T impl_BookOk_12_sv × EOs T impl_BookOk_12_so := (((), (), c.1, c.2.1, x, ()), ((c.2.2.1.Bills, c.2.2.1.Freed, ()), c.2.2.2, ()))
def impl_BookOk_12_prj (y : EVs T impl_BookOk_12_sv × EOs T impl_BookOk_12_so) : (List Int × Int × SBook × (List (Int × Bool))) × Int := ((y.1.2.2.1, y.1.2.2.2.1, ((⟨y.2.1.1, y.2.1.2.1⟩ : SBook) : SBook), y.2.2.1), (y.1.2.2.2.2.1))
def impl_BookOk_12_b (n : Nat) {R : Type} (K : Ex → Sm.St T → Option R) (c : List Int × Int × SBook × (List (Int × Bool))) (x : Int) (J : Int → Option R) : Option R :=
  impl_BookOk_L12 n (K (.exit 2) (stOf (T := T) [] [] [] [] () ())) (fun (y0 : Bool) => K .ret (stOf (T := T) [2] [] [.one (.bool)] [] (y0, ()) ())) J c.1 c.2.1 x c.2.2.1 c.2.2.2
def impl_BookOk_12_sp (n : Nat) : LSpec T := mkSpec T ⟨[], [1, 3, 77, 78, 79], [8, 96]⟩ impl_BookOk_12_sv impl_BookOk_12_so (List Int × Int × SBook × (List (Int × Bool))) (Int) impl_BookOk_12_emb impl_BookOk_12_prj (impl_BookOk_12_b n)
noncomputable def impl_BookOk_12_c : Code := ((loopCodes impl_BookOk_code)[1]?).getD .skip
def impl_BookOk_ann : Ann := fun id => bif Nat.beq id 3000005 then some ⟨[], [1, 3], [8, 96]⟩ else bif Nat.beq id 2000005 then some ⟨[], [2], []⟩ else bif Nat.beq id 5000012 then some ⟨[], [], []⟩ else bif Nat.beq id 2000012 then some ⟨[], [2], []⟩ else none
def impl_BookOk_Ls (n : Nat) : Nat → Option (LSpec T) := fun id => bif Nat.beq id 5 then some (impl_BookOk_5_sp n) else bif Nat.beq id 12 then some (impl_BookOk_12_sp n) else none
theorem impl_BookOk_5_le (n : Nat) : LoopEq (T := T) (Phi n 33) (impl_BookOk_Ls n) impl_BookOk_ann n impl_BookOk_5_c (impl_BookOk_5_sp n) := ⟨mkSpec_dec (fun y => rfl), fun c x => by kernel_rfl, fun K J c x => by kernel_rfl⟩
theorem impl_BookOk_12_le (n : Nat) : LoopEq (T := T) (Phi n 33) (impl_BookOk_Ls n) impl_BookOk_ann n impl_BookOk_12_c (impl_BookOk_12_sp n) := ⟨mkSpec_dec (fun y => rfl), fun c x => by kernel_rfl, fun K J c x => by kernel_rfl⟩
theorem impl_BookOk_tie (n : Nat) (b0 : SBook) : evF (T := T) (Phi n 33) (impl_BookOk_Ls n) impl_BookOk_ann n Try.f48 (sg 48) [vA T 68 b0] impl_BookOk_dec = impl_BookOk n b0 := by kernel_rfl
theorem impl_BookOk_lo (n : Nat) : LoopsOk (T := T) (Phi n 33) (impl_BookOk_Ls n) impl_BookOk_ann n impl_BookOk_code := loopsOk_all (cs := [impl_BookOk_5_c, impl_BookOk_12_c]) (by kernel_rfl) ⟨⟨_, by kernel_rfl, impl_BookOk_5_le n⟩, ⟨_, by kernel_rfl, impl_BookOk_12_le n⟩, trivial⟩
theorem impl_BookOk_ok (n : Nat) : EntOk Try.prog (ents n) (impl_BookOk_ent n) := by
  intro hs ar y hg h
  replace h : impl_BookOk_D n ar = some y := h
  unfold impl_BookOk_D at h
  replace h := ocons_some h
  obtain ⟨a0, r0, rfl, h⟩ := h
  replace h := onil_some h
  obtain ⟨rfl, h⟩ := h
  obtain ⟨b0, qh0, h⟩ := obind_some h
  rw [argV_eq ok qh0]
  exact call_of (phiE_nat _ _) hs ok mixed Try.func48 (c := impl_BookOk_code) (by kernel_rfl) (impl_BookOk_lo n) (by kernel_rfl) (by kernel_rfl) (by kernel_rfl) impl_BookOk_de ((impl_BookOk_tie n b0).trans h)
noncomputable def impl_Book_at_1_code : Code := match Try.f179.body with | some c => c | none => .skip
def impl_Book_at_1_ann : Ann := fun id => none
def impl_Book_at_1_Ls (n : Nat) : Nat → Option (LSpec T) := fun id => none
theorem impl_Book_at_1_tie (n : Nat) (x0 : SBill) (a1 : Int) : evF (T := T) (Phi n 34) (impl_Book_at_1_Ls n) impl_Book_at_1_ann n Try.f179 (sg 179) [vA T 84 x0, .ptr 3 a1] impl_Book_at_1_dec = impl_Book_at_1 n x0 a1 := by kernel_rfl
theorem impl_Book_at_1_lo (n : Nat) : LoopsOk (T := T) (Phi n 34) (impl_Book_at_1_Ls n) impl_Book_at_1_ann n impl_Book_at_1_code := loopsOk_all (cs := []) (by kernel_rfl) trivial
theorem impl_Book_at_1_ok (n : Nat) : EntOk Try.prog (ents n) (impl_Book_at_1_ent n) := by
  intro hs ar y hg h
  replace h : impl_Book_at_1_D n ar = some y := h
  unfold impl_Book_at_1_D at h
  replace h := ocons_some h
  obtain ⟨a0, r0, rfl, h⟩ := h
  replace h := ocons_some h
  obtain ⟨a1, r1, rfl, h⟩ := h
  replace h := onil_some h
  obtain ⟨rfl, h⟩ := h
  obtain ⟨x0, qh0, h⟩ := obind_some h
  obtain ⟨a1, qh1, h⟩ := obind_some h
  rw [argV_eq ok qh0, argP_eq qh1]
  exact call_of (phiE_nat _ _) hs ok mixed Try.func179 (c := impl_Book_at_1_code) (by kernel_rfl) (impl_Book_at_1_lo n) (by kernel_rfl) (by kernel_rfl) (by kernel_rfl) impl_Book_at_1_de ((impl_Book_at_1_tie n x0 a1).trans h)
noncomputable def slices_IndexFunc_impl_Bill_impl_Bill__impl_Book_at_1_code : Code := match Try.f178.body with | some c => c | none => .skip
def slices_IndexFunc_impl_Bill_impl_Bill__impl_Book_at_1_2_sv : List Sv := [.one (.arr 84), .one (.fnr 179 [3]), .one (.int .i64), .one (.int .i64)]
def slices_IndexFunc_impl_Bill_impl_Bill__impl_Book_at_1_2_so : List So := []
def slices_IndexFunc_impl_Bill_impl_Bill__impl_Book_at_1_2_emb (c : List SBill × Int × Int) (x : Int) : EVs T slices_IndexFunc_impl_Bill_impl_Bill__impl_Book_at_1_2_sv × EOs T slices_IndexFunc_impl_Bill_impl_Bill__impl_Book_at_1_2_so := ((c.1, (c.2.1, ()), c.2.2, x, ()), ())
def slices_IndexFunc_impl_Bill_impl_Bill__impl_Book_at_1_2_prj (y : EVs T slices_IndexFunc_impl_Bill_impl_Bill__impl_Book_at_1_2_sv × EOs T slices_IndexFunc_impl_Bill_impl_Bill__impl_Book_at_1_2_so) : (List SBill × Int × Int) × Int := ((y.1.1, y.1.2.1.1, y.1.2.2.1), (y.1.2.2.2.1))
def slices_IndexFunc_impl_Bill_impl_Bill__impl_Book_at_1_2_b (n : Nat) {R : Type} (K : Ex → Sm.St T → Option R) (c : List SBill × Int × Int) (x : Int) (J : Int → Option R) : Option R :=
  slices_IndexFunc_impl_Bill_impl_Bill__impl_Book_at_1_L2 n (K (.exit 0) (stOf (T := T) [] [] [] [] () ())) (fun (y0 : Int) => K .ret (stOf (T := T) [4] [] [.one (.int .i64)] [] (y0, ()) ())) J c.1 c.2.1 c.2.2 x
def slices_IndexFunc_impl_Bill_impl_Bill__impl_Book_at_1_2_sp (n : Nat) : LSpec T := mkSpec T ⟨[], [0, 1, 7, 8], []⟩ slices_IndexFunc_impl_Bill_impl_Bill__impl_Book_at_1_2_sv slices_IndexFunc_impl_Bill_impl_Bill__impl_Book_at_1_2_so (List SBill × Int × Int) (Int) slices_IndexFunc_impl_Bill_impl_Bill__impl_Book_at_1_2_emb slices_IndexFunc_impl_Bill_impl_Bill__impl_Book_at_1_2_prj (slices_IndexFunc_impl_Bill_impl_Bill__impl_Book_at_1_2_b n)
noncomputable def slices_IndexFunc_impl_Bill_impl_Bill__impl_Book_at_1_2_c : Code := ((loopCodes slices_IndexFunc_impl_Bill_impl_Bill__impl_Book_at_1_code)[0]?).getD .skip
def slices_IndexFunc_impl_Bill_impl_Bill__impl_Book_at_1_ann : Ann := fun id => bif Nat.beq id 3000002 then some ⟨[], [], []⟩ else bif Nat.beq id 2000002 then some ⟨[], [4], []⟩ else none
def slices_IndexFunc_impl_Bill_impl_Bill__impl_Book_at_1_Ls (n : Nat) : Nat → Option (LSpec T) := fun id => bif Nat.beq id 2 then some (slices_IndexFunc_impl_Bill_impl_Bill__impl_Book_at_1_2_sp n) else none
theorem slices_IndexFunc_impl_Bill_impl_Bill__impl_Book_at_1_2_le (n : Nat) : LoopEq (T := T) (Phi n 35) (slices_IndexFunc_impl_Bill_impl_Bill__impl_Book_at_1_Ls n) slices_IndexFunc_impl_Bill_impl_Bill__impl_Book_at_1_ann n slices_IndexFunc_impl_Bill_impl_Bill__impl_Book_at_1_2_c (slices_IndexFunc_impl_Bill_impl_Bill__impl_Book_at_1_2_sp n) := ⟨mkSpec_dec (fun y => rfl), fun c x => by kernel_rfl, fun K J c x => by kernel_rfl⟩
theorem slices_IndexFunc_impl_Bill_impl_Bill__impl_Book_at_1_tie (n : Nat) (s0 : List SBill) (f1c0 : Int) : evF (T := T) (Phi n 35) (slices_IndexFunc_impl_Bill_impl_Bill__impl_Book_at_1_Ls n) slices_IndexFunc_impl_Bill_impl_Bill__impl_Book_at_1_ann n Try.f178 (sg 178) [vA T 66 s0, .fn 179 [.ptr 3 f1c0]] slices_IndexFunc_impl_Bill_impl_Bill__impl_Book_at_1_dec = slices_IndexFunc_impl_Bill_impl_Bill__impl_Book_at_1 n s0 f1c0 := by kernel_rfl
theorem slices_IndexFunc_impl_Bill_impl_Bill__impl_Book_at_1_lo (n : Nat) : LoopsOk (T := T) (Phi n 35) (slices_IndexFunc_impl_Bill_impl_Bill__impl_Book_at_1_Ls n) slices_IndexFunc_impl_Bill_impl_Bill__impl_Book_at_1_ann n slices_IndexFunc_impl_Bill_impl_Bill__impl_Book_at_1_code := loopsOk_all (cs := [slices_IndexFunc_impl_Bill_impl_Bill__impl_Book_at_1_2_c]) (by kernel_rfl) ⟨⟨_, by kernel_rfl, slices_IndexFunc_impl_Bill_impl_Bill__impl_Book_at_1_2_le n⟩, trivial⟩
theorem slices_IndexFunc_impl_Bill_impl_Bill__impl_Book_at_1_ok (n : Nat) : EntOk Try.prog (ents n) (slices_IndexFunc_impl_Bill_impl_Bill__impl_Book_at_1_ent n) := by
  intro hs ar y hg h
  replace h : slices_IndexFunc_impl_Bill_impl_Bill__impl_Book_at_1_D n ar = some y := h
  unfold slices_IndexFunc_impl_Bill_impl_Bill__impl_Book_at_1_D at h
  split at h
  · obtain ⟨s0, qh0, h⟩ := obind_some h
    obtain ⟨f1c0, qh1, h⟩ := obind_some h
    rw [argV_eq ok qh0, argP_eq qh1] at hg ⊢
    cases (show [_] = [179] from natsEq_eq hg)
    exact call_of (phiE_nat _ _) hs ok mixed Try.func178 (c := slices_IndexFunc_impl_Bill_impl_Bill__impl_Book_at_1_code) (by kernel_rfl) (slices_IndexFunc_impl_Bill_impl_Bill__impl_Book_at_1_lo n) (by kernel_rfl) (by kernel_rfl) (by kernel_rfl) slices_IndexFunc_impl_Bill_impl_Bill__impl_Book_at_1_de ((slices_IndexFunc_impl_Bill_impl_Bill__impl_Book_at_1_tie n s0 f1c0).trans h)
  · cases h
noncomputable def impl_Book_at_code : Code := match Try.f119.body with | some c => c | none => .skip
def impl_Book_at_ann : Ann := fun id => none
def impl_Book_at_Ls (n : Nat) : Nat → Option (LSpec T) := fun id => none
theorem impl_Book_at_tie (n : Nat) (b0 : SBook) (id1 : Int) : evF (T := T) (Phi n 36) (impl_Book_at_Ls n) impl_Book_at_ann n Try.f119 (sg 119) [vA T 68 b0, vA T 3 id1] impl_Book_at_dec = impl_Book_at n b0 id1 := by kernel_rfl
theorem impl_Book_at_lo (n : Nat) : LoopsOk (T := T) (Phi n 36) (impl_Book_at_Ls n) impl_Book_at_ann n impl_Book_at_code := loopsOk_all (cs := []) (by kernel_rfl) trivial
theorem impl_Book_at_ok (n : Nat) : EntOk Try.prog (ents n) (impl_Book_at_ent n) := by
  intro hs ar y hg h
  replace h : impl_Book_at_D n ar = some y := h
  unfold impl_Book_at_D at h
  replace h := ocons_some h
  obtain ⟨a0, r0, rfl, h⟩ := h
  replace h := ocons_some h
  obtain ⟨a1, r1, rfl, h⟩ := h
  replace h := onil_some h
  obtain ⟨rfl, h⟩ := h
  obtain ⟨b0, qh0, h⟩ := obind_some h
  obtain ⟨id1, qh1, h⟩ := obind_some h
  rw [argV_eq ok qh0, argV_eq ok qh1]
  exact call_of (phiE_nat _ _) hs ok mixed Try.func119 (c := impl_Book_at_code) (by kernel_rfl) (impl_Book_at_lo n) (by kernel_rfl) (by kernel_rfl) (by kernel_rfl) impl_Book_at_de ((impl_Book_at_tie n b0 id1).trans h)
noncomputable def impl_heldBy_code : Code := match Try.f120.body with | some c => c | none => .skip
def impl_heldBy_3_sv : List Sv := [.one (.str), .one (.own 3000000 9 false), .one (.int .i64), .one (.int .i64)]
def impl_heldBy_3_so : List So := [.arr 9 false]
def impl_heldBy_3_emb (c : ByteArray × Int) (x : Int × List ByteArray) : EVs T impl_heldBy_3_sv × EOs T impl_heldBy_3_so := ((c.1, (), c.2, x.1, ()), (x.2, ()))
def impl_heldBy_3_prj (y : EVs T impl_heldBy_3_sv × EOs T impl_heldBy_3_so) : (ByteArray × Int) × (Int × List ByteArray) := ((y.1.1, y.1.2.2.1), (y.1.2.2.2.1, y.2.1))
def impl_heldBy_3_b (n : Nat) {R : Type} (K : Ex → Sm.St T → Option R) (c : ByteArray × Int) (x : Int × List ByteArray) (J : (Int × List ByteArray) → Option R) : Option R :=
  impl_heldBy_L3 n (fun (y0 : List ByteArray) => K (.exit 0) (stOf (T := T) [5] [3000000] [.one (.own 3000000 9 false)] [.arr 9 false] ((), ()) (y0, ()))) (fun z0 z1 => J (z0, z1)) c.1 c.2 x.1 x.2
def impl_heldBy_3_sp (n : Nat) : LSpec T := mkSpec T ⟨[((.reg 5), 3000000, 9)], [0, 5, 10, 11], [3000000]⟩ impl_heldBy_3_sv impl_heldBy_3_so (ByteArray × Int) (Int × List ByteArray) impl_heldBy_3_emb impl_heldBy_3_prj (impl_heldBy_3_b n)
noncomputable def impl_heldBy_3_c : Code := ((loopCodes impl_heldBy_code)[0]?).getD .skip
def impl_heldBy_ann : Ann := fun id => bif Nat.beq id 3000003 then some ⟨[((.reg 5), 3000000, 9)], [5], [3000000]⟩ else none
def impl_heldBy_Ls (n : Nat) : Nat → Option (LSpec T) := fun id => bif Nat.beq id 3 then some (impl_heldBy_3_sp n) else none
theorem impl_heldBy_3_le (n : Nat) : LoopEq (T := T) (Phi n 37) (impl_heldBy_Ls n) impl_heldBy_ann n impl_heldBy_3_c (impl_heldBy_3_sp n) := ⟨mkSpec_dec (fun y => rfl), fun c x => by kernel_rfl, fun K J c x => by kernel_rfl⟩
theorem impl_heldBy_tie (n : Nat) (who0 : ByteArray) (many1 : Int) : evF (T := T) (Phi n 37) (impl_heldBy_Ls n) impl_heldBy_ann n Try.f120 (sg 120) [vA T 9 who0, vA T 3 many1] impl_heldBy_dec = impl_heldBy n who0 many1 := by kernel_rfl
theorem impl_heldBy_lo (n : Nat) : LoopsOk (T := T) (Phi n 37) (impl_heldBy_Ls n) impl_heldBy_ann n impl_heldBy_code := loopsOk_all (cs := [impl_heldBy_3_c]) (by kernel_rfl) ⟨⟨_, by kernel_rfl, impl_heldBy_3_le n⟩, trivial⟩
theorem impl_heldBy_ok (n : Nat) : EntOk Try.prog (ents n) (impl_heldBy_ent n) := by
  intro hs ar y hg h
  replace h : impl_heldBy_D n ar = some y := h
  unfold impl_heldBy_D at h
  replace h := ocons_some h
  obtain ⟨a0, r0, rfl, h⟩ := h
  replace h := ocons_some h
  obtain ⟨a1, r1, rfl, h⟩ := h
  replace h := onil_some h
  obtain ⟨rfl, h⟩ := h
  obtain ⟨who0, qh0, h⟩ := obind_some h
  obtain ⟨many1, qh1, h⟩ := obind_some h
  rw [argV_eq ok qh0, argV_eq ok qh1]
  exact call_of (phiE_nat _ _) hs ok mixed Try.func120 (c := impl_heldBy_code) (by kernel_rfl) (impl_heldBy_lo n) (by kernel_rfl) (by kernel_rfl) (by kernel_rfl) impl_heldBy_de ((impl_heldBy_tie n who0 many1).trans h)
noncomputable def impl_DoBill_1_code : Code := match Try.f122.body with | some c => c | none => .skip
def impl_DoBill_1_ann : Ann := fun id => none
def impl_DoBill_1_Ls (n : Nat) : Nat → Option (LSpec T) := fun id => none
theorem impl_DoBill_1_tie (n : Nat) (a0 : SBill) (b1 : SBill) : evF (T := T) (Phi n 38) (impl_DoBill_1_Ls n) impl_DoBill_1_ann n Try.f122 (sg 122) [vA T 84 a0, vA T 84 b1] impl_DoBill_1_dec = impl_DoBill_1 n a0 b1 := by kernel_rfl
theorem impl_DoBill_1_lo (n : Nat) : LoopsOk (T := T) (Phi n 38) (impl_DoBill_1_Ls n) impl_DoBill_1_ann n impl_DoBill_1_code := loopsOk_all (cs := []) (by kernel_rfl) trivial
theorem impl_DoBill_1_ok (n : Nat) : EntOk Try.prog (ents n) (impl_DoBill_1_ent n) := by
  intro hs ar y hg h
  replace h : impl_DoBill_1_D n ar = some y := h
  unfold impl_DoBill_1_D at h
  replace h := ocons_some h
  obtain ⟨a0, r0, rfl, h⟩ := h
  replace h := ocons_some h
  obtain ⟨a1, r1, rfl, h⟩ := h
  replace h := onil_some h
  obtain ⟨rfl, h⟩ := h
  obtain ⟨a0, qh0, h⟩ := obind_some h
  obtain ⟨b1, qh1, h⟩ := obind_some h
  rw [argV_eq ok qh0, argV_eq ok qh1]
  exact call_of (phiE_nat _ _) hs ok mixed Try.func122 (c := impl_DoBill_1_code) (by kernel_rfl) (impl_DoBill_1_lo n) (by kernel_rfl) (by kernel_rfl) (by kernel_rfl) impl_DoBill_1_de ((impl_DoBill_1_tie n a0 b1).trans h)
theorem slices_SortFunc_impl_Bill_impl_Bill__impl_DoBill_1_cl (n : Nat) (x y : U 84) : PhiE (T := T) (ents n) 39 122 [vA T 84 x, vA T 84 y] some = (impl_DoBill_1 n x y).bind fun r => some (impl_DoBill_1_enc r) := by kernel_rfl
theorem slices_SortFunc_impl_Bill_impl_Bill__impl_DoBill_1_ok (n : Nat) : EntOk Try.prog (ents n) (slices_SortFunc_impl_Bill_impl_Bill__impl_DoBill_1_ent n) := by
  intro hs ar y hg h
  replace h : slices_SortFunc_impl_Bill_impl_Bill__impl_DoBill_1_D n ar = some y := h
  unfold slices_SortFunc_impl_Bill_impl_Bill__impl_DoBill_1_D at h
  split at h
  · obtain ⟨l0, qh0, h⟩ := obind_some h
    rw [argV_eq ok qh0] at hg ⊢
    cases (show [_] = [122] from natsEq_eq hg)
    refine sortL_call ok lay121 (e := 84) (g := 122) (caps := []) (by kernel_rfl) (by kernel_rfl) (by decide) (by kernel_rfl) (by kernel_rfl) (by kernel_rfl) (by kernel_rfl) (fun x y c hc => ?_) h
    have h1 : PhiE (T := T) (ents n) 39 122 [vA T 84 x, vA T 84 y] some = some (impl_DoBill_1_enc c) := (slices_SortFunc_impl_Bill_impl_Bill__impl_DoBill_1_cl n x y).trans (by rw [show impl_DoBill_1 n x y = some c from hc]; rfl)
    obtain ⟨res, h2, h3⟩ := hs _ _ _ _ h1
    cases h3
    exact h2
  · cases h
noncomputable def slices_Index_int_int_code : Code := match Try.f181.body with | some c => c | none => .skip
def slices_Index_int_int_2_sv : List Sv := [.one (.arr 3), .one (.int .i64), .one (.int .i64), .one (.int .i64)]
def slices_Index_int_int_2_so : List So := []
def slices_Index_int_int_2_emb (c : List Int × Int × Int) (x : Int) : EVs T slices_Index_int_int_2_sv × EOs T slices_Index_int_int_2_so := ((c.1, c.2.1, c.2.2, x, ()), ())
def slices_Index_int_int_2_prj (y : EVs T slices_Index_int_int_2_sv × EOs T slices_Index_int_int_2_so) : (List Int × Int × Int) × Int := ((y.1.1, y.1.2.1, y.1.2.2.1), (y.1.2.2.2.1))
def slices_Index_int_int_2_b (n : Nat) {R : Type} (K : Ex → Sm.St T → Option R) (c : List Int × Int × Int) (x : Int) (J : Int → Option R) : Option R :=
  slices_Index_int_int_L2 n (K (.exit 0) (stOf (T := T) [] [] [] [] () ())) (fun (y0 : Int) => K .ret (stOf (T := T) [4] [] [.one (.int .i64)] [] (y0, ()) ())) J c.1 c.2.1 c.2.2 x
def slices_Index_int_int_2_sp (n : Nat) : LSpec T := mkSpec T ⟨[], [0, 1, 7, 8], []⟩ slices_Index_int_int_2_sv slices_Index_int_int_2_so (List Int × Int × Int) (Int) slices_Index_int_int_2_emb slices_Index_int_int_2_prj (slices_Index_int_int_2_b n)
noncomputable def slices_Index_int_int_2_c : Code := ((loopCodes slices_Index_int_int_code)[0]?).getD .skip
def slices_Index_int_int_ann : Ann := fun id => bif Nat.beq id 3000002 then some ⟨[], [], []⟩ else bif Nat.beq id 2000002 then some ⟨[], [4], []⟩ else none
def slices_Index_int_int_Ls (n : Nat) : Nat → Option (LSpec T) := fun id => bif Nat.beq id 2 then some (slices_Index_int_int_2_sp n) else none
theorem slices_Index_int_int_2_le (n : Nat) : LoopEq (T := T) (Phi n 40) (slices_Index_int_int_Ls n) slices_Index_int_int_ann n slices_Index_int_int_2_c (slices_Index_int_int_2_sp n) := ⟨mkSpec_dec (fun y => rfl), fun c x => by kernel_rfl, fun K J c x => by kernel_rfl⟩
theorem slices_Index_int_int_tie (n : Nat) (s0 : List Int) (v1 : Int) : evF (T := T) (Phi n 40) (slices_Index_int_int_Ls n) slices_Index_int_int_ann n Try.f181 (sg 181) [vA T 24 s0, vA T 3 v1] slices_Index_int_int_dec = slices_Index_int_int n s0 v1 := by kernel_rfl
theorem slices_Index_int_int_lo (n : Nat) : LoopsOk (T := T) (Phi n 40) (slices_Index_int_int_Ls n) slices_Index_int_int_ann n slices_Index_int_int_code := loopsOk_all (cs := [slices_Index_int_int_2_c]) (by kernel_rfl) ⟨⟨_, by kernel_rfl, slices_Index_int_int_2_le n⟩, trivial⟩
theorem slices_Index_int_int_ok (n : Nat) : EntOk Try.prog (ents n) (slices_Index_int_int_ent n) := by
  intro hs ar y hg h
  replace h : slices_Index_int_int_D n ar = some y := h
  unfold slices_Index_int_int_D at h
  replace h := ocons_some h
  obtain ⟨a0, r0, rfl, h⟩ := h
  replace h := ocons_some h
  obtain ⟨a1, r1, rfl, h⟩ := h
  replace h := onil_some h
  obtain ⟨rfl, h⟩ := h
  obtain ⟨s0, qh0, h⟩ := obind_some h
  obtain ⟨v1, qh1, h⟩ := obind_some h
  rw [argV_eq ok qh0, argV_eq ok qh1]
  exact call_of (phiE_nat _ _) hs ok mixed Try.func181 (c := slices_Index_int_int_code) (by kernel_rfl) (slices_Index_int_int_lo n) (by kernel_rfl) (by kernel_rfl) (by kernel_rfl) slices_Index_int_int_de ((slices_Index_int_int_tie n s0 v1).trans h)
noncomputable def slices_Contains_int_int_code : Code := match Try.f123.body with | some c => c | none => .skip
def slices_Contains_int_int_ann : Ann := fun id => none
def slices_Contains_int_int_Ls (n : Nat) : Nat → Option (LSpec T) := fun id => none
theorem slices_Contains_int_int_tie (n : Nat) (s0 : List Int) (v1 : Int) : evF (T := T) (Phi n 41) (slices_Contains_int_int_Ls n) slices_Contains_int_int_ann n Try.f123 (sg 123) [vA T 24 s0, vA T 3 v1] slices_Contains_int_int_dec = slices_Contains_int_int n s0 v1 := by kernel_rfl
theorem slices_Contains_int_int_lo (n : Nat) : LoopsOk (T := T) (Phi n 41) (slices_Contains_int_int_Ls n) slices_Contains_int_int_ann n slices_Contains_int_int_code := loopsOk_all (cs := []) (by kernel_rfl) trivial
theorem slices_Contains_int_int_ok (n : Nat) : EntOk Try.prog (ents n) (slices_Contains_int_int_ent n) := by
  intro hs ar y hg h
  replace h : slices_Contains_int_int_D n ar = some y := h
  unfold slices_Contains_int_int_D at h
  replace h := ocons_some h
  obtain ⟨a0, r0, rfl, h⟩ := h
  replace h := ocons_some h
  obtain ⟨a1, r1, rfl, h⟩ := h
  replace h := onil_some h
  obtain ⟨rfl, h⟩ := h
  obtain ⟨s0, qh0, h⟩ := obind_some h
  obtain ⟨v1, qh1, h⟩ := obind_some h
  rw [argV_eq ok qh0, argV_eq ok qh1]
  exact call_of (phiE_nat _ _) hs ok mixed Try.func123 (c := slices_Contains_int_int_code) (by kernel_rfl) (slices_Contains_int_int_lo n) (by kernel_rfl) (by kernel_rfl) (by kernel_rfl) slices_Contains_int_int_de ((slices_Contains_int_int_tie n s0 v1).trans h)
noncomputable def slices_Index_string_string_code : Code := match Try.f182.body with | some c => c | none => .skip
def slices_Index_string_string_2_sv : List Sv := [.one (.arr 9), .one (.str), .one (.int .i64), .one (.int .i64)]
def slices_Index_string_string_2_so : List So := []
def slices_Index_string_string_2_emb (c : List ByteArray × ByteArray × Int) (x : Int) : EVs T slices_Index_string_string_2_sv × EOs T slices_Index_string_string_2_so := ((c.1, c.2.1, c.2.2, x, ()), ())
def slices_Index_string_string_2_prj (y : EVs T slices_Index_string_string_2_sv × EOs T slices_Index_string_string_2_so) : (List ByteArray × ByteArray × Int) × Int := ((y.1.1, y.1.2.1, y.1.2.2.1), (y.1.2.2.2.1))
def slices_Index_string_string_2_b (n : Nat) {R : Type} (K : Ex → Sm.St T → Option R) (c : List ByteArray × ByteArray × Int) (x : Int) (J : Int → Option R) : Option R :=
  slices_Index_string_string_L2 n (K (.exit 0) (stOf (T := T) [] [] [] [] () ())) (fun (y0 : Int) => K .ret (stOf (T := T) [4] [] [.one (.int .i64)] [] (y0, ()) ())) J c.1 c.2.1 c.2.2 x
def slices_Index_string_string_2_sp (n : Nat) : LSpec T := mkSpec T ⟨[], [0, 1, 7, 8], []⟩ slices_Index_string_string_2_sv slices_Index_string_string_2_so (List ByteArray × ByteArray × Int) (Int) slices_Index_string_string_2_emb slices_Index_string_string_2_prj (slices_Index_string_string_2_b n)
noncomputable def slices_Index_string_string_2_c : Code := ((loopCodes slices_Index_string_string_code)[0]?).getD .skip
def slices_Index_string_string_ann : Ann := fun id => bif Nat.beq id 3000002 then some ⟨[], [], []⟩ else bif Nat.beq id 2000002 then some ⟨[], [4], []⟩ else none
def slices_Index_string_string_Ls (n : Nat) : Nat → Option (LSpec T) := fun id => bif Nat.beq id 2 then some (slices_Index_string_string_2_sp n) else none
theorem slices_Index_string_string_2_le (n : Nat) : LoopEq (T := T) (Phi n 42) (slices_Index_string_string_Ls n) slices_Index_string_string_ann n slices_Index_string_string_2_c (slices_Index_string_string_2_sp n) := ⟨mkSpec_dec (fun y => rfl), fun c x => by kernel_rfl, fun K J c x => by kernel_rfl⟩
theorem slices_Index_string_string_tie (n : Nat) (s0 : List ByteArray) (v1 : ByteArray) : evF (T := T) (Phi n 42) (slices_Index_string_string_Ls n) slices_Index_string_string_ann n Try.f182 (sg 182) [vA T 82 s0, vA T 9 v1] slices_Index_string_string_dec = slices_Index_string_string n s0 v1 := by kernel_rfl
theorem slices_Index_string_string_lo (n : Nat) : LoopsOk (T := T) (Phi n 42) (slices_Index_string_string_Ls n) slices_Index_string_string_ann n slices_Index_string_string_code := loopsOk_all (cs := [slices_Index_string_string_2_c]) (by kernel_rfl) ⟨⟨_, by kernel_rfl, slices_Index_string_string_2_le n⟩, trivial⟩
theorem slices_Index_string_string_ok (n : Nat) : EntOk Try.prog (ents n) (slices_Index_string_string_ent n) := by
  intro hs ar y hg h
  replace h : slices_Index_string_string_D n ar = some y := h
  unfold slices_Index_string_string_D at h
  replace h := ocons_some h
  obtain ⟨a0, r0, rfl, h⟩ := h
  replace h := ocons_some h
  obtain ⟨a1, r1, rfl, h⟩ := h
  replace h := onil_some h
  obtain ⟨rfl, h⟩ := h
  obtain ⟨s0, qh0, h⟩ := obind_some h
  obtain ⟨v1, qh1, h⟩ := obind_some h
  rw [argV_eq ok qh0, argV_eq ok qh1]
  exact call_of (phiE_nat _ _) hs ok mixed Try.func182 (c := slices_Index_string_string_code) (by kernel_rfl) (slices_Index_string_string_lo n) (by kernel_rfl) (by kernel_rfl) (by kernel_rfl) slices_Index_string_string_de ((slices_Index_string_string_tie n s0 v1).trans h)
noncomputable def slices_Contains_string_string_code : Code := match Try.f124.body with | some c => c | none => .skip
def slices_Contains_string_string_ann : Ann := fun id => none
def slices_Contains_string_string_Ls (n : Nat) : Nat → Option (LSpec T) := fun id => none
theorem slices_Contains_string_string_tie (n : Nat) (s0 : List ByteArray) (v1 : ByteArray) : evF (T := T) (Phi n 43) (slices_Contains_string_string_Ls n) slices_Contains_string_string_ann n Try.f124 (sg 124) [vA T 82 s0, vA T 9 v1] slices_Contains_string_string_dec = slices_Contains_string_string n s0 v1 := by kernel_rfl
theorem slices_Contains_string_string_lo (n : Nat) : LoopsOk (T := T) (Phi n 43) (slices_Contains_string_string_Ls n) slices_Contains_string_string_ann n slices_Contains_string_string_code := loopsOk_all (cs := []) (by kernel_rfl) trivial
theorem slices_Contains_string_string_ok (n : Nat) : EntOk Try.prog (ents n) (slices_Contains_string_string_ent n) := by
  intro hs ar y hg h
  replace h : slices_Contains_string_string_D n ar = some y := h
  unfold slices_Contains_string_string_D at h
  replace h := ocons_some h
  obtain ⟨a0, r0, rfl, h⟩ := h
  replace h := ocons_some h
  obtain ⟨a1, r1, rfl, h⟩ := h
  replace h := onil_some h
  obtain ⟨rfl, h⟩ := h
  obtain ⟨s0, qh0, h⟩ := obind_some h
  obtain ⟨v1, qh1, h⟩ := obind_some h
  rw [argV_eq ok qh0, argV_eq ok qh1]
  exact call_of (phiE_nat _ _) hs ok mixed Try.func124 (c := slices_Contains_string_string_code) (by kernel_rfl) (slices_Contains_string_string_lo n) (by kernel_rfl) (by kernel_rfl) (by kernel_rfl) slices_Contains_string_string_de ((slices_Contains_string_string_tie n s0 v1).trans h)
theorem slices_Sort_int_int_ok (n : Nat) : EntOk Try.prog (ents n) (slices_Sort_int_int_ent n) := by
  intro hs ar y hg h
  replace h : slices_Sort_int_int_D n ar = some y := h
  unfold slices_Sort_int_int_D at h
  replace h := ocons_some h
  obtain ⟨a0, r1, rfl, h⟩ := h
  replace h := onil_some h
  obtain ⟨rfl, h⟩ := h
  replace h := obind_some h
  obtain ⟨l0, qh0, h⟩ := h
  replace h : sortIO l0 = some y := h
  rw [argV_eq ok qh0]
  exact sortIO_call ok ilay127 (e := 3) (fun x => x) (fun x => x) (fun _ => rfl) (fun _ => rfl) (by kernel_rfl) (List.map_id' _) (List.map_id' _) h
noncomputable def impl_DoBill_2_code : Code := match Try.f126.body with | some c => c | none => .skip
def impl_DoBill_2_ann : Ann := fun id => none
def impl_DoBill_2_Ls (n : Nat) : Nat → Option (LSpec T) := fun id => none
theorem impl_DoBill_2_tie (n : Nat) (s0 : ByteArray) (a1 : SBillOp) : evF (T := T) (Phi n 45) (impl_DoBill_2_Ls n) impl_DoBill_2_ann n Try.f126 (sg 126) [vA T 9 s0, .ptr 72 a1] impl_DoBill_2_dec = impl_DoBill_2 n s0 a1 := by kernel_rfl
theorem impl_DoBill_2_lo (n : Nat) : LoopsOk (T := T) (Phi n 45) (impl_DoBill_2_Ls n) impl_DoBill_2_ann n impl_DoBill_2_code := loopsOk_all (cs := []) (by kernel_rfl) trivial
theorem impl_DoBill_2_ok (n : Nat) : EntOk Try.prog (ents n) (impl_DoBill_2_ent n) := by
  intro hs ar y hg h
  replace h : impl_DoBill_2_D n ar = some y := h
  unfold impl_DoBill_2_D at h
  replace h := ocons_some h
  obtain ⟨a0, r0, rfl, h⟩ := h
  replace h := ocons_some h
  obtain ⟨a1, r1, rfl, h⟩ := h
  replace h := onil_some h
  obtain ⟨rfl, h⟩ := h
  obtain ⟨s0, qh0, h⟩ := obind_some h
  obtain ⟨a1, qh1, h⟩ := obind_some h
  rw [argV_eq ok qh0, argP_eq qh1]
  exact call_of (phiE_nat _ _) hs ok mixed Try.func126 (c := impl_DoBill_2_code) (by kernel_rfl) (impl_DoBill_2_lo n) (by kernel_rfl) (by kernel_rfl) (by kernel_rfl) impl_DoBill_2_de ((impl_DoBill_2_tie n s0 a1).trans h)
noncomputable def slices_IndexFunc_string_string__impl_DoBill_2_code : Code := match Try.f183.body with | some c => c | none => .skip
def slices_IndexFunc_string_string__impl_DoBill_2_2_sv : List Sv := [.one (.arr 9), .one (.fnr 126 [72]), .one (.int .i64), .one (.int .i64)]
def slices_IndexFunc_string_string__impl_DoBill_2_2_so : List So := []
def slices_IndexFunc_string_string__impl_DoBill_2_2_emb (c : List ByteArray × SBillOp × Int) (x : Int) : EVs T slices_IndexFunc_string_string__impl_DoBill_2_2_sv × EOs T slices_IndexFunc_string_string__impl_DoBill_2_2_so := ((c.1, (c.2.1, ()), c.2.2, x, ()), ())
def slices_IndexFunc_string_string__impl_DoBill_2_2_prj (y : EVs T slices_IndexFunc_string_string__impl_DoBill_2_2_sv × EOs T slices_IndexFunc_string_string__impl_DoBill_2_2_so) : (List ByteArray × SBillOp × Int) × Int := ((y.1.1, y.1.2.1.1, y.1.2.2.1), (y.1.2.2.2.1))
def slices_IndexFunc_string_string__impl_DoBill_2_2_b (n : Nat) {R : Type} (K : Ex → Sm.St T → Option R) (c : List ByteArray × SBillOp × Int) (x : Int) (J : Int → Option R) : Option R :=
  slices_IndexFunc_string_string__impl_DoBill_2_L2 n (K (.exit 0) (stOf (T := T) [] [] [] [] () ())) (fun (y0 : Int) => K .ret (stOf (T := T) [4] [] [.one (.int .i64)] [] (y0, ()) ())) J c.1 c.2.1 c.2.2 x
def slices_IndexFunc_string_string__impl_DoBill_2_2_sp (n : Nat) : LSpec T := mkSpec T ⟨[], [0, 1, 7, 8], []⟩ slices_IndexFunc_string_string__impl_DoBill_2_2_sv slices_IndexFunc_string_string__impl_DoBill_2_2_so (List ByteArray × SBillOp × Int) (Int) slices_IndexFunc_string_string__impl_DoBill_2_2_emb slices_IndexFunc_string_string__impl_DoBill_2_2_prj (slices_IndexFunc_string_string__impl_DoBill_2_2_b n)
noncomputable def slices_IndexFunc_string_string__impl_DoBill_2_2_c : Code := ((loopCodes slices_IndexFunc_string_string__impl_DoBill_2_code)[0]?).getD .skip
def slices_IndexFunc_string_string__impl_DoBill_2_ann : Ann := fun id => bif Nat.beq id 3000002 then some ⟨[], [], []⟩ else bif Nat.beq id 2000002 then some ⟨[], [4], []⟩ else none
def slices_IndexFunc_string_string__impl_DoBill_2_Ls (n : Nat) : Nat → Option (LSpec T) := fun id => bif Nat.beq id 2 then some (slices_IndexFunc_string_string__impl_DoBill_2_2_sp n) else none
theorem slices_IndexFunc_string_string__impl_DoBill_2_2_le (n : Nat) : LoopEq (T := T) (Phi n 46) (slices_IndexFunc_string_string__impl_DoBill_2_Ls n) slices_IndexFunc_string_string__impl_DoBill_2_ann n slices_IndexFunc_string_string__impl_DoBill_2_2_c (slices_IndexFunc_string_string__impl_DoBill_2_2_sp n) := ⟨mkSpec_dec (fun y => rfl), fun c x => by kernel_rfl, fun K J c x => by kernel_rfl⟩
theorem slices_IndexFunc_string_string__impl_DoBill_2_tie (n : Nat) (s0 : List ByteArray) (f1c0 : SBillOp) : evF (T := T) (Phi n 46) (slices_IndexFunc_string_string__impl_DoBill_2_Ls n) slices_IndexFunc_string_string__impl_DoBill_2_ann n Try.f183 (sg 183) [vA T 82 s0, .fn 126 [.ptr 72 f1c0]] slices_IndexFunc_string_string__impl_DoBill_2_dec = slices_IndexFunc_string_string__impl_DoBill_2 n s0 f1c0 := by kernel_rfl
theorem slices_IndexFunc_string_string__impl_DoBill_2_lo (n : Nat) : LoopsOk (T := T) (Phi n 46) (slices_IndexFunc_string_string__impl_DoBill_2_Ls n) slices_IndexFunc_string_string__impl_DoBill_2_ann n slices_IndexFunc_string_string__impl_DoBill_2_code := loopsOk_all (cs := [slices_IndexFunc_string_string__impl_DoBill_2_2_c]) (by kernel_rfl) ⟨⟨_, by kernel_rfl, slices_IndexFunc_string_string__impl_DoBill_2_2_le n⟩, trivial⟩
theorem slices_IndexFunc_string_string__impl_DoBill_2_ok (n : Nat) : EntOk Try.prog (ents n) (slices_IndexFunc_string_string__impl_DoBill_2_ent n) := by
  intro hs ar y hg h
  replace h : slices_IndexFunc_string_string__impl_DoBill_2_D n ar = some y := h
  unfold slices_IndexFunc_string_string__impl_DoBill_2_D at h
  split at h
  · obtain ⟨s0, qh0, h⟩ := obind_some h
    obtain ⟨f1c0, qh1, h⟩ := obind_some h
    rw [argV_eq ok qh0, argP_eq qh1] at hg ⊢
    cases (show [_] = [126] from natsEq_eq hg)
    exact call_of (phiE_nat _ _) hs ok mixed Try.func183 (c := slices_IndexFunc_string_string__impl_DoBill_2_code) (by kernel_rfl) (slices_IndexFunc_string_string__impl_DoBill_2_lo n) (by kernel_rfl) (by kernel_rfl) (by kernel_rfl) slices_IndexFunc_string_string__impl_DoBill_2_de ((slices_IndexFunc_string_string__impl_DoBill_2_tie n s0 f1c0).trans h)
  · cases h
noncomputable def slices_ContainsFunc_string_string__impl_DoBill_2_code : Code := match Try.f125.body with | some c => c | none => .skip
def slices_ContainsFunc_string_string__impl_DoBill_2_ann : Ann := fun id => none
def slices_ContainsFunc_string_string__impl_DoBill_2_Ls (n : Nat) : Nat → Option (LSpec T) := fun id => none
theorem slices_ContainsFunc_string_string__impl_DoBill_2_tie (n : Nat) (s0 : List ByteArray) (f1c0 : SBillOp) : evF (T := T) (Phi n 47) (slices_ContainsFunc_string_string__impl_DoBill_2_Ls n) slices_ContainsFunc_string_string__impl_DoBill_2_ann n Try.f125 (sg 125) [vA T 82 s0, .fn 126 [.ptr 72 f1c0]] slices_ContainsFunc_string_string__impl_DoBill_2_dec = slices_ContainsFunc_string_string__impl_DoBill_2 n s0 f1c0 := by kernel_rfl
theorem slices_ContainsFunc_string_string__impl_DoBill_2_lo (n : Nat) : LoopsOk (T := T) (Phi n 47) (slices_ContainsFunc_string_string__impl_DoBill_2_Ls n) slices_ContainsFunc_string_string__impl_DoBill_2_ann n slices_ContainsFunc_string_string__impl_DoBill_2_code := loopsOk_all (cs := []) (by kernel_rfl) trivial
theorem slices_ContainsFunc_string_string__impl_DoBill_2_ok (n : Nat) : EntOk Try.prog (ents n) (slices_ContainsFunc_string_string__impl_DoBill_2_ent n) := by
  intro hs ar y hg h
  replace h : slices_ContainsFunc_string_string__impl_DoBill_2_D n ar = some y := h
  unfold slices_ContainsFunc_string_string__impl_DoBill_2_D at h
  split at h
  · obtain ⟨s0, qh0, h⟩ := obind_some h
    obtain ⟨f1c0, qh1, h⟩ := obind_some h
    rw [argV_eq ok qh0, argP_eq qh1] at hg ⊢
    cases (show [_] = [126] from natsEq_eq hg)
    exact call_of (phiE_nat _ _) hs ok mixed Try.func125 (c := slices_ContainsFunc_string_string__impl_DoBill_2_code) (by kernel_rfl) (slices_ContainsFunc_string_string__impl_DoBill_2_lo n) (by kernel_rfl) (by kernel_rfl) (by kernel_rfl) slices_ContainsFunc_string_string__impl_DoBill_2_de ((slices_ContainsFunc_string_string__impl_DoBill_2_tie n s0 f1c0).trans h)
  · cases h
noncomputable def impl_DoBill_code : Code := match Try.f43.body with | some c => c | none => .skip
def impl_DoBill_ann : Ann := fun id => none
def impl_DoBill_Ls (n : Nat) : Nat → Option (LSpec T) := fun id => none
theorem impl_DoBill_tie (n : Nat) (b0 : SBook) (op1 : SBillOp) : evF (T := T) (Phi n 48) (impl_DoBill_Ls n) impl_DoBill_ann n Try.f43 (sg 43) [vA T 68 b0, vA T 72 op1] impl_DoBill_dec = impl_DoBill n b0 op1 := by kernel_rfl
theorem impl_DoBill_lo (n : Nat) : LoopsOk (T := T) (Phi n 48) (impl_DoBill_Ls n) impl_DoBill_ann n impl_DoBill_code := loopsOk_all (cs := []) (by kernel_rfl) trivial
theorem impl_DoBill_ok (n : Nat) : EntOk Try.prog (ents n) (impl_DoBill_ent n) := by
  intro hs ar y hg h
  replace h : impl_DoBill_D n ar = some y := h
  unfold impl_DoBill_D at h
  replace h := ocons_some h
  obtain ⟨a0, r0, rfl, h⟩ := h
  replace h := ocons_some h
  obtain ⟨a1, r1, rfl, h⟩ := h
  replace h := onil_some h
  obtain ⟨rfl, h⟩ := h
  obtain ⟨b0, qh0, h⟩ := obind_some h
  obtain ⟨op1, qh1, h⟩ := obind_some h
  rw [argV_eq ok qh0, argV_eq ok qh1]
  exact call_of (phiE_nat _ _) hs ok mixed Try.func43 (c := impl_DoBill_code) (by kernel_rfl) (impl_DoBill_lo n) (by kernel_rfl) (by kernel_rfl) (by kernel_rfl) impl_DoBill_de ((impl_DoBill_tie n b0 op1).trans h)
noncomputable def laws_sameInts_code : Code := match Try.f49.body with | some c => c | none => .skip
def laws_sameInts_4_sv : List Sv := [.one (.arr 3), .one (.arr 3), .one (.int .i64)]
def laws_sameInts_4_so : List So := []
def laws_sameInts_4_emb (c : List Int × List Int) (x : Int) : EVs T laws_sameInts_4_sv × EOs T laws_sameInts_4_so := ((c.1, c.2, x, ()), ())
def laws_sameInts_4_prj (y : EVs T laws_sameInts_4_sv × EOs T laws_sameInts_4_so) : (List Int × List Int) × Int := ((y.1.1, y.1.2.1), (y.1.2.2.1))
def laws_sameInts_4_b (n : Nat) {R : Type} (K : Ex → Sm.St T → Option R) (c : List Int × List Int) (x : Int) (J : Int → Option R) : Option R :=
  laws_sameInts_L4 n (K (.exit 0) (stOf (T := T) [] [] [] [] () ())) (fun (y0 : Bool) => K .ret (stOf (T := T) [4] [] [.one (.bool)] [] (y0, ()) ())) J c.1 c.2 x
def laws_sameInts_4_sp (n : Nat) : LSpec T := mkSpec T ⟨[], [0, 1, 5], []⟩ laws_sameInts_4_sv laws_sameInts_4_so (List Int × List Int) (Int) laws_sameInts_4_emb laws_sameInts_4_prj (laws_sameInts_4_b n)
noncomputable def laws_sameInts_4_c : Code := ((loopCodes laws_sameInts_code)[0]?).getD .skip
def laws_sameInts_ann : Ann := fun id => bif Nat.beq id 3000004 then some ⟨[], [], []⟩ else bif Nat.beq id 2000004 then some ⟨[], [4], []⟩ else none
def laws_sameInts_Ls (n : Nat) : Nat → Option (LSpec T) := fun id => bif Nat.beq id 4 then some (laws_sameInts_4_sp n) else none
theorem laws_sameInts_4_le (n : Nat) : LoopEq (T := T) (Phi n 49) (laws_sameInts_Ls n) laws_sameInts_ann n laws_sameInts_4_c (laws_sameInts_4_sp n) := ⟨mkSpec_dec (fun y => rfl), fun c x => by kernel_rfl, fun K J c x => by kernel_rfl⟩
theorem laws_sameInts_tie (n : Nat) (a0 : List Int) (b1 : List Int) : evF (T := T) (Phi n 49) (laws_sameInts_Ls n) laws_sameInts_ann n Try.f49 (sg 49) [vA T 24 a0, vA T 24 b1] laws_sameInts_dec = laws_sameInts n a0 b1 := by kernel_rfl
theorem laws_sameInts_lo (n : Nat) : LoopsOk (T := T) (Phi n 49) (laws_sameInts_Ls n) laws_sameInts_ann n laws_sameInts_code := loopsOk_all (cs := [laws_sameInts_4_c]) (by kernel_rfl) ⟨⟨_, by kernel_rfl, laws_sameInts_4_le n⟩, trivial⟩
theorem laws_sameInts_ok (n : Nat) : EntOk Try.prog (ents n) (laws_sameInts_ent n) := by
  intro hs ar y hg h
  replace h : laws_sameInts_D n ar = some y := h
  unfold laws_sameInts_D at h
  replace h := ocons_some h
  obtain ⟨a0, r0, rfl, h⟩ := h
  replace h := ocons_some h
  obtain ⟨a1, r1, rfl, h⟩ := h
  replace h := onil_some h
  obtain ⟨rfl, h⟩ := h
  obtain ⟨a0, qh0, h⟩ := obind_some h
  obtain ⟨b1, qh1, h⟩ := obind_some h
  rw [argV_eq ok qh0, argV_eq ok qh1]
  exact call_of (phiE_nat _ _) hs ok mixed Try.func49 (c := laws_sameInts_code) (by kernel_rfl) (laws_sameInts_lo n) (by kernel_rfl) (by kernel_rfl) (by kernel_rfl) laws_sameInts_de ((laws_sameInts_tie n a0 b1).trans h)
noncomputable def laws_within_code : Code := match Try.f50.body with | some c => c | none => .skip
def laws_within_2_sv : List Sv := [.one (.arr 3), .one (.int .i64), .one (.int .i64)]
def laws_within_2_so : List So := []
def laws_within_2_emb (c : List Int × Int) (x : Int) : EVs T laws_within_2_sv × EOs T laws_within_2_so := ((c.1, c.2, x, ()), ())
def laws_within_2_prj (y : EVs T laws_within_2_sv × EOs T laws_within_2_so) : (List Int × Int) × Int := ((y.1.1, y.1.2.1), (y.1.2.2.1))
def laws_within_2_b (n : Nat) {R : Type} (K : Ex → Sm.St T → Option R) (c : List Int × Int) (x : Int) (J : Int → Option R) : Option R :=
  laws_within_L2 n (K (.exit 0) (stOf (T := T) [] [] [] [] () ())) (fun (y0 : Bool) => K .ret (stOf (T := T) [4] [] [.one (.bool)] [] (y0, ()) ())) J c.1 c.2 x
def laws_within_2_sp (n : Nat) : LSpec T := mkSpec T ⟨[], [0, 1, 5], []⟩ laws_within_2_sv laws_within_2_so (List Int × Int) (Int) laws_within_2_emb laws_within_2_prj (laws_within_2_b n)
noncomputable def laws_within_2_c : Code := ((loopCodes laws_within_code)[0]?).getD .skip
def laws_within_ann : Ann := fun id => bif Nat.beq id 3000002 then some ⟨[], [], []⟩ else bif Nat.beq id 2000002 then some ⟨[], [4], []⟩ else none
def laws_within_Ls (n : Nat) : Nat → Option (LSpec T) := fun id => bif Nat.beq id 2 then some (laws_within_2_sp n) else none
theorem laws_within_2_le (n : Nat) : LoopEq (T := T) (Phi n 50) (laws_within_Ls n) laws_within_ann n laws_within_2_c (laws_within_2_sp n) := ⟨mkSpec_dec (fun y => rfl), fun c x => by kernel_rfl, fun K J c x => by kernel_rfl⟩
theorem laws_within_tie (n : Nat) (list0 : List Int) (x1 : Int) : evF (T := T) (Phi n 50) (laws_within_Ls n) laws_within_ann n Try.f50 (sg 50) [vA T 24 list0, vA T 3 x1] laws_within_dec = laws_within n list0 x1 := by kernel_rfl
theorem laws_within_lo (n : Nat) : LoopsOk (T := T) (Phi n 50) (laws_within_Ls n) laws_within_ann n laws_within_code := loopsOk_all (cs := [laws_within_2_c]) (by kernel_rfl) ⟨⟨_, by kernel_rfl, laws_within_2_le n⟩, trivial⟩
theorem laws_within_ok (n : Nat) : EntOk Try.prog (ents n) (laws_within_ent n) := by
  intro hs ar y hg h
  replace h : laws_within_D n ar = some y := h
  unfold laws_within_D at h
  replace h := ocons_some h
  obtain ⟨a0, r0, rfl, h⟩ := h
  replace h := ocons_some h
  obtain ⟨a1, r1, rfl, h⟩ := h
  replace h := onil_some h
  obtain ⟨rfl, h⟩ := h
  obtain ⟨list0, qh0, h⟩ := obind_some h
  obtain ⟨x1, qh1, h⟩ := obind_some h
  rw [argV_eq ok qh0, argV_eq ok qh1]
  exact call_of (phiE_nat _ _) hs ok mixed Try.func50 (c := laws_within_code) (by kernel_rfl) (laws_within_lo n) (by kernel_rfl) (by kernel_rfl) (by kernel_rfl) laws_within_de ((laws_within_tie n list0 x1).trans h)
noncomputable def impl_TitleOf_code : Code := match Try.f51.body with | some c => c | none => .skip
def impl_TitleOf_10_sv : List Sv := [.one (.arr 9), .one (.int .i64), .one (.int .i64)]
def impl_TitleOf_10_so : List So := []
def impl_TitleOf_10_emb (c : List ByteArray × Int) (x : Int) : EVs T impl_TitleOf_10_sv × EOs T impl_TitleOf_10_so := ((c.1, c.2, x, ()), ())
def impl_TitleOf_10_prj (y : EVs T impl_TitleOf_10_sv × EOs T impl_TitleOf_10_so) : (List ByteArray × Int) × Int := ((y.1.1, y.1.2.1), (y.1.2.2.1))
def impl_TitleOf_10_b (n : Nat) {R : Type} (K : Ex → Sm.St T → Option R) (c : List ByteArray × Int) (x : Int) (J : Int → Option R) : Option R :=
  impl_TitleOf_L10 n (K (.exit 0) (stOf (T := T) [] [] [] [] () ())) (fun (y0 : ByteArray) (y1 : Bool) => K .ret (stOf (T := T) [4, 5] [] [.one (.str), .one (.bool)] [] (y0, y1, ()) ())) J c.1 c.2 x
def impl_TitleOf_10_sp (n : Nat) : LSpec T := mkSpec T ⟨[], [35, 36, 37], []⟩ impl_TitleOf_10_sv impl_TitleOf_10_so (List ByteArray × Int) (Int) impl_TitleOf_10_emb impl_TitleOf_10_prj (impl_TitleOf_10_b n)
noncomputable def impl_TitleOf_10_c : Code := ((loopCodes impl_TitleOf_code)[0]?).getD .skip
def impl_TitleOf_ann : Ann := fun id => bif Nat.beq id 3000010 then some ⟨[], [], []⟩ else bif Nat.beq id 2000010 then some ⟨[], [4, 5], []⟩ else none
def impl_TitleOf_Ls (n : Nat) : Nat → Option (LSpec T) := fun id => bif Nat.beq id 10 then some (impl_TitleOf_10_sp n) else none
theorem impl_TitleOf_10_le (n : Nat) : LoopEq (T := T) (Phi n 51) (impl_TitleOf_Ls n) impl_TitleOf_ann n impl_TitleOf_10_c (impl_TitleOf_10_sp n) := ⟨mkSpec_dec (fun y => rfl), fun c x => by kernel_rfl, fun K J c x => by kernel_rfl⟩
theorem impl_TitleOf_tie (n : Nat) (b0 : SBook) (id1 : Int) : evF (T := T) (Phi n 51) (impl_TitleOf_Ls n) impl_TitleOf_ann n Try.f51 (sg 51) [vA T 68 b0, vA T 3 id1] impl_TitleOf_dec = impl_TitleOf n b0 id1 := by kernel_rfl
theorem impl_TitleOf_lo (n : Nat) : LoopsOk (T := T) (Phi n 51) (impl_TitleOf_Ls n) impl_TitleOf_ann n impl_TitleOf_code := loopsOk_all (cs := [impl_TitleOf_10_c]) (by kernel_rfl) ⟨⟨_, by kernel_rfl, impl_TitleOf_10_le n⟩, trivial⟩
theorem impl_TitleOf_ok (n : Nat) : EntOk Try.prog (ents n) (impl_TitleOf_ent n) := by
  intro hs ar y hg h
  replace h : impl_TitleOf_D n ar = some y := h
  unfold impl_TitleOf_D at h
  replace h := ocons_some h
  obtain ⟨a0, r0, rfl, h⟩ := h
  replace h := ocons_some h
  obtain ⟨a1, r1, rfl, h⟩ := h
  replace h := onil_some h
  obtain ⟨rfl, h⟩ := h
  obtain ⟨b0, qh0, h⟩ := obind_some h
  obtain ⟨id1, qh1, h⟩ := obind_some h
  rw [argV_eq ok qh0, argV_eq ok qh1]
  exact call_of (phiE_nat _ _) hs ok mixed Try.func51 (c := impl_TitleOf_code) (by kernel_rfl) (impl_TitleOf_lo n) (by kernel_rfl) (by kernel_rfl) (by kernel_rfl) impl_TitleOf_de ((impl_TitleOf_tie n b0 id1).trans h)
noncomputable def impl_RunBills_code : Code := match Try.f52.body with | some c => c | none => .skip
def impl_RunBills_6_sv : List Sv := [.one (.ptr 16 0 0), .one (.ptr 32 0 0), .one (.own 3000000 3 false), .one (.arr 72), .one (.int .i64), .one (.int .i64)]
def impl_RunBills_6_so : List So := [.var [.own 3000001 84 false, .own 3000002 3 false], .arr 84 false, .arr 3 false, .var [.own 3000003 84 false, .own 3000004 3 false], .arr 84 false, .arr 3 false, .arr 3 false]
def impl_RunBills_6_emb (c : List SBillOp × Int × List SBill × List Int) (x : Int × List SBill × List Int × List Int) : EVs T impl_RunBills_6_sv × EOs T impl_RunBills_6_so := (((), (), (), c.1, c.2.1, x.1, ()), (((), (), ()), x.2.1, x.2.2.1, ((), (), ()), c.2.2.1, c.2.2.2, x.2.2.2, ()))
def impl_RunBills_6_prj (y : EVs T impl_RunBills_6_sv × EOs T impl_RunBills_6_so) : (List SBillOp × Int × List SBill × List Int) × (Int × List SBill × List Int × List Int) := ((y.1.2.2.2.1, y.1.2.2.2.2.1, y.2.2.2.2.2.1, y.2.2.2.2.2.2.1), (y.1.2.2.2.2.2.1, y.2.2.1, y.2.2.2.1, y.2.2.2.2.2.2.2.1))
def impl_RunBills_6_b (n : Nat) {R : Type} (K : Ex → Sm.St T → Option R) (c : List SBillOp × Int × List SBill × List Int) (x : Int × List SBill × List Int × List Int) (J : (Int × List SBill × List Int × List Int) → Option R) : Option R :=
  impl_RunBills_L6 n (fun (y0 : List SBill) (y1 : List Int) (y4 : List Int) => K (.exit 0) (stOf (T := T) [2, 4, 6] [16, 3000001, 3000002, 32, 3000003, 3000004, 3000000] [.one (.ptr 16 0 0), .one (.ptr 32 0 0), .one (.own 3000000 3 false)] [.var [.own 3000001 84 false, .own 3000002 3 false], .arr 84 false, .arr 3 false, .var [.own 3000003 84 false, .own 3000004 3 false], .arr 84 false, .arr 3 false, .arr 3 false] ((), (), (), ()) (((), (), ()), y0, y1, ((), (), ()), c.2.2.1, c.2.2.2, y4, ()))) (fun z0 z1 z2 z3 => J (z0, z1, z2, z3)) c.1 c.2.1 x.1 x.2.1 x.2.2.1 c.2.2.1 c.2.2.2 x.2.2.2
def impl_RunBills_6_sp (n : Nat) : LSpec T := mkSpec T ⟨[((.reg 6), 3000000, 3), ((.cell 16 0), 3000001, 84), ((.cell 16 1), 3000002, 3), ((.cell 32 0), 3000003, 84), ((.cell 32 1), 3000004, 3)], [2, 4, 6, 16, 17, 18], [16, 3000001, 3000002, 32, 3000003, 3000004, 3000000]⟩ impl_RunBills_6_sv impl_RunBills_6_so (List SBillOp × Int × List SBill × List Int) (Int × List SBill × List Int × List Int) impl_RunBills_6_emb impl_RunBills_6_prj (impl_RunBills_6_b n)
noncomputable def impl_RunBills_6_c : Code := ((loopCodes impl_RunBills_code)[0]?).getD .skip
def impl_RunBills_ann : Ann := fun id => bif Nat.beq id 3000006 then some ⟨[((.reg 6), 3000000, 3), ((.cell 16 0), 3000001, 84), ((.cell 16 1), 3000002, 3), ((.cell 32 0), 3000003, 84), ((.cell 32 1), 3000004, 3)], [2, 4, 6], [16, 3000001, 3000002, 32, 3000003, 3000004, 3000000]⟩ else none
def impl_RunBills_Ls (n : Nat) : Nat → Option (LSpec T) := fun id => bif Nat.beq id 6 then some (impl_RunBills_6_sp n) else none
theorem impl_RunBills_6_le (n : Nat) : LoopEq (T := T) (Phi n 52) (impl_RunBills_Ls n) impl_RunBills_ann n impl_RunBills_6_c (impl_RunBills_6_sp n) := ⟨mkSpec_dec (fun y => rfl), fun c x => by kernel_rfl, fun K J c x => by kernel_rfl⟩
theorem impl_RunBills_tie (n : Nat) (b0 : SBook) (ops1 : List SBillOp) : evF (T := T) (Phi n 52) (impl_RunBills_Ls n) impl_RunBills_ann n Try.f52 (sg 52) [vA T 68 b0, vA T 77 ops1] impl_RunBills_dec = impl_RunBills n b0 ops1 := by kernel_rfl
theorem impl_RunBills_lo (n : Nat) : LoopsOk (T := T) (Phi n 52) (impl_RunBills_Ls n) impl_RunBills_ann n impl_RunBills_code := loopsOk_all (cs := [impl_RunBills_6_c]) (by kernel_rfl) ⟨⟨_, by kernel_rfl, impl_RunBills_6_le n⟩, trivial⟩
theorem impl_RunBills_ok (n : Nat) : EntOk Try.prog (ents n) (impl_RunBills_ent n) := by
  intro hs ar y hg h
  replace h : impl_RunBills_D n ar = some y := h
  unfold impl_RunBills_D at h
  replace h := ocons_some h
  obtain ⟨a0, r0, rfl, h⟩ := h
  replace h := ocons_some h
  obtain ⟨a1, r1, rfl, h⟩ := h
  replace h := onil_some h
  obtain ⟨rfl, h⟩ := h
  obtain ⟨b0, qh0, h⟩ := obind_some h
  obtain ⟨ops1, qh1, h⟩ := obind_some h
  rw [argV_eq ok qh0, argV_eq ok qh1]
  exact call_of (phiE_nat _ _) hs ok mixed Try.func52 (c := impl_RunBills_code) (by kernel_rfl) (impl_RunBills_lo n) (by kernel_rfl) (by kernel_rfl) (by kernel_rfl) impl_RunBills_de ((impl_RunBills_tie n b0 ops1).trans h)
noncomputable def laws_FnTitle_code : Code := match Try.f8.body with | some c => c | none => .skip
def laws_FnTitle_6_sv : List Sv := [.one (.ptr 24 0 0), .one (.own 3000000 72 false), .one (.ptr 40 0 0), .one (.int .i64)]
def laws_FnTitle_6_so : List So := [.var [.arr 84, .arr 3], .arrS 72, .var [.arr 84, .arr 3]]
def laws_FnTitle_6_emb (c : SBook × List SBillOp) (x : Int × SBook) : EVs T laws_FnTitle_6_sv × EOs T laws_FnTitle_6_so := (((), (), (), x.1, ()), ((c.1.Bills, c.1.Freed, ()), c.2, (x.2.Bills, x.2.Freed, ()), ()))
def laws_FnTitle_6_prj (y : EVs T laws_FnTitle_6_sv × EOs T laws_FnTitle_6_so) : (SBook × List SBillOp) × (Int × SBook) := ((((⟨y.2.1.1, y.2.1.2.1⟩ : SBook) : SBook), y.2.2.1), (y.1.2.2.2.1, ((⟨y.2.2.2.1.1, y.2.2.2.1.2.1⟩ : SBook) : SBook)))
def laws_FnTitle_6_b (n : Nat) {R : Type} (K : Ex → Sm.St T → Option R) (c : SBook × List SBillOp) (x : Int × SBook) (J : (Int × SBook) → Option R) : Option R :=
  laws_FnTitle_L6 n (fun (y2 : SBook) => K (.exit 0) (stOf (T := T) [3, 4, 5] [24, 3000000, 40] [.one (.ptr 24 0 0), .one (.own 3000000 72 false), .one (.ptr 40 0 0)] [.var [.arr 84, .arr 3], .arrS 72, .var [.arr 84, .arr 3]] ((), (), (), ()) ((c.1.Bills, c.1.Freed, ()), c.2, (y2.Bills, y2.Freed, ()), ()))) (fun (y0 : Bool) => K .ret (stOf (T := T) [2] [] [.one (.bool)] [] (y0, ()) ())) (fun z0 z1 => J (z0, z1)) x.1 c.1 c.2 x.2
def laws_FnTitle_6_sp (n : Nat) : LSpec T := mkSpec T ⟨[((.cell 40 0), 84, 999999), ((.cell 40 1), 3, 999999), ((.reg 4), 3000000, 72)], [3, 4, 5, 6], [24, 3000000, 40]⟩ laws_FnTitle_6_sv laws_FnTitle_6_so (SBook × List SBillOp) (Int × SBook) laws_FnTitle_6_emb laws_FnTitle_6_prj (laws_FnTitle_6_b n)
noncomputable def laws_FnTitle_6_c : Code := ((loopCodes laws_FnTitle_code)[0]?).getD .skip
def laws_FnTitle_21_sv : List Sv := [.one (.ptr 24 0 0), .one (.own 3000000 72 false), .one (.ptr 40 0 0), .one (.int .i64), .one (.ptr 56 0 0), .one (.bool), .one (.int .i64)]
def laws_FnTitle_21_so : List So := [.var [.arr 84, .arr 3], .arrS 72, .var [.arr 84, .arr 3], .var [.own 3000001 84 false, .own 3000002 3 false], .arr 84 false, .arr 3 false]
def laws_FnTitle_21_emb (c : Int × SBook × List SBillOp × SBook × List SBill × List Int) (x : Bool × Int) : EVs T laws_FnTitle_21_sv × EOs T laws_FnTitle_21_so := (((), (), (), c.1, (), x.1, x.2, ()), ((c.2.1.Bills, c.2.1.Freed, ()), c.2.2.1, (c.2.2.2.1.Bills, c.2.2.2.1.Freed, ()), ((), (), ()), c.2.2.2.2.1, c.2.2.2.2.2, ()))
def laws_FnTitle_21_prj (y : EVs T laws_FnTitle_21_sv × EOs T laws_FnTitle_21_so) : (Int × SBook × List SBillOp × SBook × List SBill × List Int) × (Bool × Int) := ((y.1.2.2.2.1, ((⟨y.2.1.1, y.2.1.2.1⟩ : SBook) : SBook), y.2.2.1, ((⟨y.2.2.2.1.1, y.2.2.2.1.2.1⟩ : SBook) : SBook), y.2.2.2.2.2.1, y.2.2.2.2.2.2.1), (y.1.2.2.2.2.2.1, y.1.2.2.2.2.2.2.1))
def laws_FnTitle_21_b (n : Nat) {R : Type} (K : Ex → Sm.St T → Option R) (c : Int × SBook × List SBillOp × SBook × List SBill × List Int) (x : Bool × Int) (J : (Bool × Int) → Option R) : Option R :=
  laws_FnTitle_L21 n (fun (y1 : Bool) => K (.exit 2) (stOf (T := T) [3, 4, 5, 6, 7, 11] [24, 3000000, 40, 56, 3000001, 3000002] [.one (.ptr 24 0 0), .one (.own 3000000 72 false), .one (.ptr 40 0 0), .one (.int .i64), .one (.ptr 56 0 0), .one (.bool)] [.var [.arr 84, .arr 3], .arrS 72, .var [.arr 84, .arr 3], .var [.own 3000001 84 false, .own 3000002 3 false], .arr 84 false, .arr 3 false] ((), (), (), c.1, (), y1, ()) ((c.2.1.Bills, c.2.1.Freed, ()), c.2.2.1, (c.2.2.2.1.Bills, c.2.2.2.1.Freed, ()), ((), (), ()), c.2.2.2.2.1, c.2.2.2.2.2, ()))) (fun z0 z1 => J (z0, z1)) c.1 x.1 x.2 c.2.1 c.2.2.1 c.2.2.2.1 c.2.2.2.2.1 c.2.2.2.2.2
def laws_FnTitle_21_sp (n : Nat) : LSpec T := mkSpec T ⟨[((.reg 4), 3000000, 72), ((.cell 56 0), 3000001, 84), ((.cell 56 1), 3000002, 3)], [3, 4, 5, 6, 7, 11, 12], [24, 3000000, 40, 56, 3000001, 3000002]⟩ laws_FnTitle_21_sv laws_FnTitle_21_so (Int × SBook × List SBillOp × SBook × List SBill × List Int) (Bool × Int) laws_FnTitle_21_emb laws_FnTitle_21_prj (laws_FnTitle_21_b n)
noncomputable def laws_FnTitle_21_c : Code := ((loopCodes laws_FnTitle_code)[1]?).getD .skip
def laws_FnTitle_24_sv : List Sv := [.one (.ptr 24 0 0), .one (.own 3000000 72 false), .one (.ptr 40 0 0), .one (.int .i64), .one (.ptr 56 0 0), .one (.bool), .one (.int .i64), .one (.int .i64)]
def laws_FnTitle_24_so : List So := [.var [.arr 84, .arr 3], .arrS 72, .var [.arr 84, .arr 3], .var [.own 3000001 84 false, .own 3000002 3 false], .arr 84 false, .arr 3 false]
def laws_FnTitle_24_emb (c : Int × Int × SBook × List SBillOp × SBook × List SBill × List Int) (x : Bool × Int) : EVs T laws_FnTitle_24_sv × EOs T laws_FnTitle_24_so := (((), (), (), c.1, (), x.1, c.2.1, x.2, ()), ((c.2.2.1.Bills, c.2.2.1.Freed, ()), c.2.2.2.1, (c.2.2.2.2.1.Bills, c.2.2.2.2.1.Freed, ()), ((), (), ()), c.2.2.2.2.2.1, c.2.2.2.2.2.2, ()))
def laws_FnTitle_24_prj (y : EVs T laws_FnTitle_24_sv × EOs T laws_FnTitle_24_so) : (Int × Int × SBook × List SBillOp × SBook × List SBill × List Int) × (Bool × Int) := ((y.1.2.2.2.1, y.1.2.2.2.2.2.2.1, ((⟨y.2.1.1, y.2.1.2.1⟩ : SBook) : SBook), y.2.2.1, ((⟨y.2.2.2.1.1, y.2.2.2.1.2.1⟩ : SBook) : SBook), y.2.2.2.2.2.1, y.2.2.2.2.2.2.1), (y.1.2.2.2.2.2.1, y.1.2.2.2.2.2.2.2.1))
def laws_FnTitle_24_b (n : Nat) {R : Type} (K : Ex → Sm.St T → Option R) (c : Int × Int × SBook × List SBillOp × SBook × List SBill × List Int) (x : Bool × Int) (J : (Bool × Int) → Option R) : Option R :=
  laws_FnTitle_L24 n (fun (y1 : Bool) => K (.exit 4) (stOf (T := T) [3, 4, 5, 6, 7, 11, 12] [24, 3000000, 40, 56, 3000001, 3000002] [.one (.ptr 24 0 0), .one (.own 3000000 72 false), .one (.ptr 40 0 0), .one (.int .i64), .one (.ptr 56 0 0), .one (.bool), .one (.int .i64)] [.var [.arr 84, .arr 3], .arrS 72, .var [.arr 84, .arr 3], .var [.own 3000001 84 false, .own 3000002 3 false], .arr 84 false, .arr 3 false] ((), (), (), c.1, (), y1, c.2.1, ()) ((c.2.2.1.Bills, c.2.2.1.Freed, ()), c.2.2.2.1, (c.2.2.2.2.1.Bills, c.2.2.2.2.1.Freed, ()), ((), (), ()), c.2.2.2.2.2.1, c.2.2.2.2.2.2, ()))) (fun z0 z1 => J (z0, z1)) c.1 x.1 c.2.1 x.2 c.2.2.1 c.2.2.2.1 c.2.2.2.2.1 c.2.2.2.2.2.1 c.2.2.2.2.2.2
def laws_FnTitle_24_sp (n : Nat) : LSpec T := mkSpec T ⟨[((.reg 4), 3000000, 72), ((.cell 56 0), 3000001, 84), ((.cell 56 1), 3000002, 3)], [3, 4, 5, 6, 7, 11, 12, 13], [24, 3000000, 40, 56, 3000001, 3000002]⟩ laws_FnTitle_24_sv laws_FnTitle_24_so (Int × Int × SBook × List SBillOp × SBook × List SBill × List Int) (Bool × Int) laws_FnTitle_24_emb laws_FnTitle_24_prj (laws_FnTitle_24_b n)
noncomputable def laws_FnTitle_24_c : Code := ((loopCodes laws_FnTitle_code)[2]?).getD .skip
def laws_FnTitle_ann : Ann := fun id => bif Nat.beq id 3000006 then some ⟨[((.reg 4), 3000000, 72)], [3, 4, 5], [24, 3000000, 40]⟩ else bif Nat.beq id 2000006 then some ⟨[], [2], []⟩ else bif Nat.beq id 5000021 then some ⟨[((.reg 4), 3000000, 72), ((.cell 56 0), 3000001, 84), ((.cell 56 1), 3000002, 3)], [3, 4, 5, 6, 7, 11], [24, 3000000, 40, 56, 3000001, 3000002]⟩ else bif Nat.beq id 7000024 then some ⟨[((.reg 4), 3000000, 72), ((.cell 56 0), 3000001, 84), ((.cell 56 1), 3000002, 3)], [3, 4, 5, 6, 7, 11, 12], [24, 3000000, 40, 56, 3000001, 3000002]⟩ else none
def laws_FnTitle_Ls (n : Nat) : Nat → Option (LSpec T) := fun id => bif Nat.beq id 6 then some (laws_FnTitle_6_sp n) else bif Nat.beq id 21 then some (laws_FnTitle_21_sp n) else bif Nat.beq id 24 then some (laws_FnTitle_24_sp n) else none
theorem laws_FnTitle_6_le (n : Nat) : LoopEq (T := T) (Phi n 53) (laws_FnTitle_Ls n) laws_FnTitle_ann n laws_FnTitle_6_c (laws_FnTitle_6_sp n) := ⟨mkSpec_dec (fun y => rfl), fun c x => by kernel_rfl, fun K J c x => by kernel_rfl⟩
theorem laws_FnTitle_21_le (n : Nat) : LoopEq (T := T) (Phi n 53) (laws_FnTitle_Ls n) laws_FnTitle_ann n laws_FnTitle_21_c (laws_FnTitle_21_sp n) := ⟨mkSpec_dec (fun y => rfl), fun c x => by kernel_rfl, fun K J c x => by kernel_rfl⟩
theorem laws_FnTitle_24_le (n : Nat) : LoopEq (T := T) (Phi n 53) (laws_FnTitle_Ls n) laws_FnTitle_ann n laws_FnTitle_24_c (laws_FnTitle_24_sp n) := ⟨mkSpec_dec (fun y => rfl), fun c x => by kernel_rfl, fun K J c x => by kernel_rfl⟩
theorem laws_FnTitle_tie (n : Nat) (code0 : List Int) : evF (T := T) (Phi n 53) (laws_FnTitle_Ls n) laws_FnTitle_ann n Try.f8 (sg 8) [vA T 34 code0] laws_FnTitle_dec = laws_FnTitle n code0 := by kernel_rfl
theorem laws_FnTitle_lo (n : Nat) : LoopsOk (T := T) (Phi n 53) (laws_FnTitle_Ls n) laws_FnTitle_ann n laws_FnTitle_code := loopsOk_all (cs := [laws_FnTitle_6_c, laws_FnTitle_21_c, laws_FnTitle_24_c]) (by kernel_rfl) ⟨⟨_, by kernel_rfl, laws_FnTitle_6_le n⟩, ⟨_, by kernel_rfl, laws_FnTitle_21_le n⟩, ⟨_, by kernel_rfl, laws_FnTitle_24_le n⟩, trivial⟩
theorem laws_FnTitle_ok (n : Nat) : EntOk Try.prog (ents n) (laws_FnTitle_ent n) := by
  intro hs ar y hg h
  replace h : laws_FnTitle_D n ar = some y := h
  unfold laws_FnTitle_D at h
  replace h := ocons_some h
  obtain ⟨a0, r0, rfl, h⟩ := h
  replace h := onil_some h
  obtain ⟨rfl, h⟩ := h
  obtain ⟨code0, qh0, h⟩ := obind_some h
  rw [argV_eq ok qh0]
  exact call_of (phiE_nat _ _) hs ok mixed Try.func8 (c := laws_FnTitle_code) (by kernel_rfl) (laws_FnTitle_lo n) (by kernel_rfl) (by kernel_rfl) (by kernel_rfl) laws_FnTitle_de ((laws_FnTitle_tie n code0).trans h)
theorem entsOk (n : Nat) : EntsOk Try.prog (ents n) (ents n) := ⟨laws_big_ok n, spec_l1New_ok n, spec_l1Byte_ok n, spec_l1Below_ok n, spec_l1Pick_ok n, spec_l14Who_ok n, spec_l1Once_ok n, spec_l1PickInt_ok n, spec_l14DrawOp_ok n, spec_l14Copy_ok n, spec_l1In_ok n, spec_l1Name_ok n, spec_l14Find_ok n, spec_BookOk_ok n, spec_l14Op_ok n, spec_l14Made_ok n, spec_l9Has_ok n, spec_l14Holds_ok n, spec_l14Do_ok n, spec_DoBill_ok n, spec_l14Draw_ok n, spec_DrawBook_ok n, impl_own_impl_Bill_ok n, impl_own_string_ok n, impl_own_int_ok n, impl_Book_own_ok n, impl_nameOk_ok n, impl_in_ok n, impl_idRight_ok n, impl_emptyOrName_ok n, impl_BookOk_1_ok n, slices_IndexFunc_string_string__impl_BookOk_1_ok n, slices_ContainsFunc_string_string__impl_BookOk_1_ok n, impl_BookOk_ok n, impl_Book_at_1_ok n, slices_IndexFunc_impl_Bill_impl_Bill__impl_Book_at_1_ok n, impl_Book_at_ok n, impl_heldBy_ok n, impl_DoBill_1_ok n, slices_SortFunc_impl_Bill_impl_Bill__impl_DoBill_1_ok n, slices_Index_int_int_ok n, slices_Contains_int_int_ok n, slices_Index_string_string_ok n, slices_Contains_string_string_ok n, slices_Sort_int_int_ok n, impl_DoBill_2_ok n, slices_IndexFunc_string_string__impl_DoBill_2_ok n, slices_ContainsFunc_string_string__impl_DoBill_2_ok n, impl_DoBill_ok n, laws_sameInts_ok n, laws_within_ok n, impl_TitleOf_ok n, impl_RunBills_ok n, laws_FnTitle_ok n, trivial⟩
theorem sem (n i : Nat) : SemOk (Phi n i) (CallOk Try.prog T) := phiE_ok (entsOk n) i
end Go.Sm.E8
