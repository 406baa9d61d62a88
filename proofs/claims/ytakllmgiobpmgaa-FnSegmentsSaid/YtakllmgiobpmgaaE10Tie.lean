import Derived.Test.YtakllmgiobpmgaaE10Tb
import Derived.Test.YtakllmgiobpmgaaE10Wr
import Derived.KernelRfl
/- Each function's code computes what the plain function computes. -/
set_option linter.unusedSimpArgs false
set_option linter.deprecated false
set_option linter.unusedSectionVars false
set_option linter.unusedVariables false
set_option maxRecDepth 100000
open Go Go.Proofs
noncomputable section
namespace Go.Sm.E10
/-- By recursors, and of a greater height than all of the functions: the kernel takes these apart first. -/
def obind {α β : Type} (o : Option α) (f : α → Option β) : Option β := let _ := @laws_FnSegments; Option.rec (motive := fun _ => Option β) none (fun a => f a) o
theorem obind_some {α β : Type} {o : Option α} {f : α → Option β} {y : β} (h : obind o f = some y) : ∃ a, o = some a ∧ f a = some y := by
  cases o with
  | none => cases h
  | some a => exact ⟨a, rfl, h⟩
def ocons {β : Type} (l : List (A T)) (f : A T → List (A T) → Option β) : Option β := let _ := @laws_FnSegments; List.rec (motive := fun _ => Option β) none (fun a r _ => f a r) l
theorem ocons_some {β : Type} {l : List (A T)} {f : A T → List (A T) → Option β} {y : β} (h : ocons l f = some y) : ∃ a r, l = a :: r ∧ f a r = some y := by
  cases l with
  | nil => cases h
  | cons a r => exact ⟨a, r, rfl, h⟩
def onil {β : Type} (l : List (A T)) (x : Option β) : Option β := let _ := @laws_FnSegments; List.rec (motive := fun _ => Option β) x (fun _ _ _ => none) l
theorem onil_some {β : Type} {l : List (A T)} {x : Option β} {y : β} (h : onil l x = some y) : l = [] ∧ x = some y := by
  cases l with
  | nil => exact ⟨rfl, h⟩
  | cons a r => cases h
def laws_big_dec (res : Res T) : Option Bool := match res.rets, res.outs with
  | [a0], [] => (retV (T := T) 4 a0).bind fun r0 => some (r0)
  | _, _ => none
def laws_big_enc (y : Bool) : Res T := ⟨[vR T 4 y], []⟩
theorem laws_big_de (res : Res T) (y : Bool) (h : laws_big_dec res = some y) : res = laws_big_enc y := by
  obtain ⟨rets, outs⟩ := res
  unfold laws_big_dec at h
  dsimp only at h
  split at h
  · obtain ⟨r0, h0, h⟩ := Option.bind_eq_some_iff.1 h
    cases h
    rw [retV_eq ok h0]
    rfl
  · cases h
def spec_l1New_dec (res : Res T) : Option Sl1Cur := match res.rets, res.outs with
  | [a0], [] => (retP (T := T) 184 a0).bind fun r0 => some (r0)
  | _, _ => none
def spec_l1New_enc (y : Sl1Cur) : Res T := ⟨[.ptr 184 y], []⟩
theorem spec_l1New_de (res : Res T) (y : Sl1Cur) (h : spec_l1New_dec res = some y) : res = spec_l1New_enc y := by
  obtain ⟨rets, outs⟩ := res
  unfold spec_l1New_dec at h
  dsimp only at h
  split at h
  · obtain ⟨r0, h0, h⟩ := Option.bind_eq_some_iff.1 h
    cases h
    rw [retP_eq h0]
    rfl
  · cases h
def spec_l1Byte_dec (res : Res T) : Option (Int × Sl1Cur) := match res.rets, res.outs with
  | [a0], [b0] => (retV (T := T) 3 a0).bind fun r0 => (outV (T := T) 184 b0).bind fun r1 => some (r0, r1)
  | _, _ => none
def spec_l1Byte_enc (y : Int × Sl1Cur) : Res T := ⟨[vR T 3 y.1], [.var 184 y.2]⟩
theorem spec_l1Byte_de (res : Res T) (y : Int × Sl1Cur) (h : spec_l1Byte_dec res = some y) : res = spec_l1Byte_enc y := by
  obtain ⟨rets, outs⟩ := res
  unfold spec_l1Byte_dec at h
  dsimp only at h
  split at h
  · obtain ⟨r0, h0, h⟩ := Option.bind_eq_some_iff.1 h
    obtain ⟨r1, h1, h⟩ := Option.bind_eq_some_iff.1 h
    cases h
    rw [retV_eq ok h0, outV_eq h1]
    rfl
  · cases h
def spec_l1Below_dec (res : Res T) : Option (Int × Sl1Cur) := match res.rets, res.outs with
  | [a0], [b0] => (retV (T := T) 3 a0).bind fun r0 => (outV (T := T) 184 b0).bind fun r1 => some (r0, r1)
  | _, _ => none
def spec_l1Below_enc (y : Int × Sl1Cur) : Res T := ⟨[vR T 3 y.1], [.var 184 y.2]⟩
theorem spec_l1Below_de (res : Res T) (y : Int × Sl1Cur) (h : spec_l1Below_dec res = some y) : res = spec_l1Below_enc y := by
  obtain ⟨rets, outs⟩ := res
  unfold spec_l1Below_dec at h
  dsimp only at h
  split at h
  · obtain ⟨r0, h0, h⟩ := Option.bind_eq_some_iff.1 h
    obtain ⟨r1, h1, h⟩ := Option.bind_eq_some_iff.1 h
    cases h
    rw [retV_eq ok h0, outV_eq h1]
    rfl
  · cases h
def spec_l1Pick_dec (res : Res T) : Option (ByteArray × Sl1Cur) := match res.rets, res.outs with
  | [a0], [b0] => (retV (T := T) 9 a0).bind fun r0 => (outV (T := T) 184 b0).bind fun r1 => some (r0, r1)
  | _, _ => none
def spec_l1Pick_enc (y : ByteArray × Sl1Cur) : Res T := ⟨[vR T 9 y.1], [.var 184 y.2]⟩
theorem spec_l1Pick_de (res : Res T) (y : ByteArray × Sl1Cur) (h : spec_l1Pick_dec res = some y) : res = spec_l1Pick_enc y := by
  obtain ⟨rets, outs⟩ := res
  unfold spec_l1Pick_dec at h
  dsimp only at h
  split at h
  · obtain ⟨r0, h0, h⟩ := Option.bind_eq_some_iff.1 h
    obtain ⟨r1, h1, h⟩ := Option.bind_eq_some_iff.1 h
    cases h
    rw [retV_eq ok h0, outV_eq h1]
    rfl
  · cases h
def spec_l1Once_dec (res : Res T) : Option (Bool × Sl1Cur) := match res.rets, res.outs with
  | [a0], [b0] => (retV (T := T) 4 a0).bind fun r0 => (outV (T := T) 184 b0).bind fun r1 => some (r0, r1)
  | _, _ => none
def spec_l1Once_enc (y : Bool × Sl1Cur) : Res T := ⟨[vR T 4 y.1], [.var 184 y.2]⟩
theorem spec_l1Once_de (res : Res T) (y : Bool × Sl1Cur) (h : spec_l1Once_dec res = some y) : res = spec_l1Once_enc y := by
  obtain ⟨rets, outs⟩ := res
  unfold spec_l1Once_dec at h
  dsimp only at h
  split at h
  · obtain ⟨r0, h0, h⟩ := Option.bind_eq_some_iff.1 h
    obtain ⟨r1, h1, h⟩ := Option.bind_eq_some_iff.1 h
    cases h
    rw [retV_eq ok h0, outV_eq h1]
    rfl
  · cases h
def spec_l21DrawText_dec (res : Res T) : Option (ByteArray × Sl1Cur) := match res.rets, res.outs with
  | [a0], [b0] => (retV (T := T) 9 a0).bind fun r0 => (outV (T := T) 184 b0).bind fun r1 => some (r0, r1)
  | _, _ => none
def spec_l21DrawText_enc (y : ByteArray × Sl1Cur) : Res T := ⟨[vR T 9 y.1], [.var 184 y.2]⟩
theorem spec_l21DrawText_de (res : Res T) (y : ByteArray × Sl1Cur) (h : spec_l21DrawText_dec res = some y) : res = spec_l21DrawText_enc y := by
  obtain ⟨rets, outs⟩ := res
  unfold spec_l21DrawText_dec at h
  dsimp only at h
  split at h
  · obtain ⟨r0, h0, h⟩ := Option.bind_eq_some_iff.1 h
    obtain ⟨r1, h1, h⟩ := Option.bind_eq_some_iff.1 h
    cases h
    rw [retV_eq ok h0, outV_eq h1]
    rfl
  · cases h
def spec_l1PickInt_dec (res : Res T) : Option (Int × Sl1Cur) := match res.rets, res.outs with
  | [a0], [b0] => (retV (T := T) 3 a0).bind fun r0 => (outV (T := T) 184 b0).bind fun r1 => some (r0, r1)
  | _, _ => none
def spec_l1PickInt_enc (y : Int × Sl1Cur) : Res T := ⟨[vR T 3 y.1], [.var 184 y.2]⟩
theorem spec_l1PickInt_de (res : Res T) (y : Int × Sl1Cur) (h : spec_l1PickInt_dec res = some y) : res = spec_l1PickInt_enc y := by
  obtain ⟨rets, outs⟩ := res
  unfold spec_l1PickInt_dec at h
  dsimp only at h
  split at h
  · obtain ⟨r0, h0, h⟩ := Option.bind_eq_some_iff.1 h
    obtain ⟨r1, h1, h⟩ := Option.bind_eq_some_iff.1 h
    cases h
    rw [retV_eq ok h0, outV_eq h1]
    rfl
  · cases h
def spec_l21DrawSegs_dec (res : Res T) : Option (List SSeg × Sl1Cur) := match res.rets, res.outs with
  | [a0], [b0] => (retV (T := T) 89 a0).bind fun r0 => (outV (T := T) 184 b0).bind fun r1 => some (r0, r1)
  | _, _ => none
def spec_l21DrawSegs_enc (y : List SSeg × Sl1Cur) : Res T := ⟨[vR T 89 y.1], [.var 184 y.2]⟩
theorem spec_l21DrawSegs_de (res : Res T) (y : List SSeg × Sl1Cur) (h : spec_l21DrawSegs_dec res = some y) : res = spec_l21DrawSegs_enc y := by
  obtain ⟨rets, outs⟩ := res
  unfold spec_l21DrawSegs_dec at h
  dsimp only at h
  split at h
  · obtain ⟨r0, h0, h⟩ := Option.bind_eq_some_iff.1 h
    obtain ⟨r1, h1, h⟩ := Option.bind_eq_some_iff.1 h
    cases h
    rw [retV_eq ok h0, outV_eq h1]
    rfl
  · cases h
def spec_DrawWriteSegs_dec (res : Res T) : Option (List SSeg) := match res.rets, res.outs with
  | [a0], [] => (retV (T := T) 89 a0).bind fun r0 => some (r0)
  | _, _ => none
def spec_DrawWriteSegs_enc (y : List SSeg) : Res T := ⟨[vR T 89 y], []⟩
theorem spec_DrawWriteSegs_de (res : Res T) (y : List SSeg) (h : spec_DrawWriteSegs_dec res = some y) : res = spec_DrawWriteSegs_enc y := by
  obtain ⟨rets, outs⟩ := res
  unfold spec_DrawWriteSegs_dec at h
  dsimp only at h
  split at h
  · obtain ⟨r0, h0, h⟩ := Option.bind_eq_some_iff.1 h
    cases h
    rw [retV_eq ok h0]
    rfl
  · cases h
def impl_capital_dec (res : Res T) : Option Bool := match res.rets, res.outs with
  | [a0], [] => (retV (T := T) 4 a0).bind fun r0 => some (r0)
  | _, _ => none
def impl_capital_enc (y : Bool) : Res T := ⟨[vR T 4 y], []⟩
theorem impl_capital_de (res : Res T) (y : Bool) (h : impl_capital_dec res = some y) : res = impl_capital_enc y := by
  obtain ⟨rets, outs⟩ := res
  unfold impl_capital_dec at h
  dsimp only at h
  split at h
  · obtain ⟨r0, h0, h⟩ := Option.bind_eq_some_iff.1 h
    cases h
    rw [retV_eq ok h0]
    rfl
  · cases h
def impl_in_dec (res : Res T) : Option Bool := match res.rets, res.outs with
  | [a0], [] => (retV (T := T) 4 a0).bind fun r0 => some (r0)
  | _, _ => none
def impl_in_enc (y : Bool) : Res T := ⟨[vR T 4 y], []⟩
theorem impl_in_de (res : Res T) (y : Bool) (h : impl_in_dec res = some y) : res = impl_in_enc y := by
  obtain ⟨rets, outs⟩ := res
  unfold impl_in_dec at h
  dsimp only at h
  split at h
  · obtain ⟨r0, h0, h⟩ := Option.bind_eq_some_iff.1 h
    cases h
    rw [retV_eq ok h0]
    rfl
  · cases h
def impl_plain_dec (res : Res T) : Option Bool := match res.rets, res.outs with
  | [a0], [] => (retV (T := T) 4 a0).bind fun r0 => some (r0)
  | _, _ => none
def impl_plain_enc (y : Bool) : Res T := ⟨[vR T 4 y], []⟩
theorem impl_plain_de (res : Res T) (y : Bool) (h : impl_plain_dec res = some y) : res = impl_plain_enc y := by
  obtain ⟨rets, outs⟩ := res
  unfold impl_plain_dec at h
  dsimp only at h
  split at h
  · obtain ⟨r0, h0, h⟩ := Option.bind_eq_some_iff.1 h
    cases h
    rw [retV_eq ok h0]
    rfl
  · cases h
def impl_ediText_dec (res : Res T) : Option Bool := match res.rets, res.outs with
  | [a0], [] => (retV (T := T) 4 a0).bind fun r0 => some (r0)
  | _, _ => none
def impl_ediText_enc (y : Bool) : Res T := ⟨[vR T 4 y], []⟩
theorem impl_ediText_de (res : Res T) (y : Bool) (h : impl_ediText_dec res = some y) : res = impl_ediText_enc y := by
  obtain ⟨rets, outs⟩ := res
  unfold impl_ediText_dec at h
  dsimp only at h
  split at h
  · obtain ⟨r0, h0, h⟩ := Option.bind_eq_some_iff.1 h
    cases h
    rw [retV_eq ok h0]
    rfl
  · cases h
def impl_segRight_1_dec (res : Res T) : Option Bool := match res.rets, res.outs with
  | [a0], [] => (retV (T := T) 4 a0).bind fun r0 => some (r0)
  | _, _ => none
def impl_segRight_1_enc (y : Bool) : Res T := ⟨[vR T 4 y], []⟩
theorem impl_segRight_1_de (res : Res T) (y : Bool) (h : impl_segRight_1_dec res = some y) : res = impl_segRight_1_enc y := by
  obtain ⟨rets, outs⟩ := res
  unfold impl_segRight_1_dec at h
  dsimp only at h
  split at h
  · obtain ⟨r0, h0, h⟩ := Option.bind_eq_some_iff.1 h
    cases h
    rw [retV_eq ok h0]
    rfl
  · cases h
def slices_IndexFunc_string_string__impl_segRight_1_dec (res : Res T) : Option Int := match res.rets, res.outs with
  | [a0], [] => (retV (T := T) 3 a0).bind fun r0 => some (r0)
  | _, _ => none
def slices_IndexFunc_string_string__impl_segRight_1_enc (y : Int) : Res T := ⟨[vR T 3 y], []⟩
theorem slices_IndexFunc_string_string__impl_segRight_1_de (res : Res T) (y : Int) (h : slices_IndexFunc_string_string__impl_segRight_1_dec res = some y) : res = slices_IndexFunc_string_string__impl_segRight_1_enc y := by
  obtain ⟨rets, outs⟩ := res
  unfold slices_IndexFunc_string_string__impl_segRight_1_dec at h
  dsimp only at h
  split at h
  · obtain ⟨r0, h0, h⟩ := Option.bind_eq_some_iff.1 h
    cases h
    rw [retV_eq ok h0]
    rfl
  · cases h
def slices_ContainsFunc_string_string__impl_segRight_1_dec (res : Res T) : Option Bool := match res.rets, res.outs with
  | [a0], [] => (retV (T := T) 4 a0).bind fun r0 => some (r0)
  | _, _ => none
def slices_ContainsFunc_string_string__impl_segRight_1_enc (y : Bool) : Res T := ⟨[vR T 4 y], []⟩
theorem slices_ContainsFunc_string_string__impl_segRight_1_de (res : Res T) (y : Bool) (h : slices_ContainsFunc_string_string__impl_segRight_1_dec res = some y) : res = slices_ContainsFunc_string_string__impl_segRight_1_enc y := by
  obtain ⟨rets, outs⟩ := res
  unfold slices_ContainsFunc_string_string__impl_segRight_1_dec at h
  dsimp only at h
  split at h
  · obtain ⟨r0, h0, h⟩ := Option.bind_eq_some_iff.1 h
    cases h
    rw [retV_eq ok h0]
    rfl
  · cases h
def impl_segRight_dec (res : Res T) : Option Bool := match res.rets, res.outs with
  | [a0], [] => (retV (T := T) 4 a0).bind fun r0 => some (r0)
  | _, _ => none
def impl_segRight_enc (y : Bool) : Res T := ⟨[vR T 4 y], []⟩
theorem impl_segRight_de (res : Res T) (y : Bool) (h : impl_segRight_dec res = some y) : res = impl_segRight_enc y := by
  obtain ⟨rets, outs⟩ := res
  unfold impl_segRight_dec at h
  dsimp only at h
  split at h
  · obtain ⟨r0, h0, h⟩ := Option.bind_eq_some_iff.1 h
    cases h
    rw [retV_eq ok h0]
    rfl
  · cases h
def impl_SegsOk_1_dec (res : Res T) : Option Bool := match res.rets, res.outs with
  | [a0], [] => (retV (T := T) 4 a0).bind fun r0 => some (r0)
  | _, _ => none
def impl_SegsOk_1_enc (y : Bool) : Res T := ⟨[vR T 4 y], []⟩
theorem impl_SegsOk_1_de (res : Res T) (y : Bool) (h : impl_SegsOk_1_dec res = some y) : res = impl_SegsOk_1_enc y := by
  obtain ⟨rets, outs⟩ := res
  unfold impl_SegsOk_1_dec at h
  dsimp only at h
  split at h
  · obtain ⟨r0, h0, h⟩ := Option.bind_eq_some_iff.1 h
    cases h
    rw [retV_eq ok h0]
    rfl
  · cases h
def sIndex_SegsOk_1_dec (res : Res T) : Option Int := match res.rets, res.outs with
  | [a0], [] => (retV (T := T) 3 a0).bind fun r0 => some (r0)
  | _, _ => none
def sIndex_SegsOk_1_enc (y : Int) : Res T := ⟨[vR T 3 y], []⟩
theorem sIndex_SegsOk_1_de (res : Res T) (y : Int) (h : sIndex_SegsOk_1_dec res = some y) : res = sIndex_SegsOk_1_enc y := by
  obtain ⟨rets, outs⟩ := res
  unfold sIndex_SegsOk_1_dec at h
  dsimp only at h
  split at h
  · obtain ⟨r0, h0, h⟩ := Option.bind_eq_some_iff.1 h
    cases h
    rw [retV_eq ok h0]
    rfl
  · cases h
def sContains_SegsOk_1_dec (res : Res T) : Option Bool := match res.rets, res.outs with
  | [a0], [] => (retV (T := T) 4 a0).bind fun r0 => some (r0)
  | _, _ => none
def sContains_SegsOk_1_enc (y : Bool) : Res T := ⟨[vR T 4 y], []⟩
theorem sContains_SegsOk_1_de (res : Res T) (y : Bool) (h : sContains_SegsOk_1_dec res = some y) : res = sContains_SegsOk_1_enc y := by
  obtain ⟨rets, outs⟩ := res
  unfold sContains_SegsOk_1_dec at h
  dsimp only at h
  split at h
  · obtain ⟨r0, h0, h⟩ := Option.bind_eq_some_iff.1 h
    cases h
    rw [retV_eq ok h0]
    rfl
  · cases h
def impl_written_dec (res : Res T) : Option ByteArray := match res.rets, res.outs with
  | [a0], [] => (retV (T := T) 9 a0).bind fun r0 => some (r0)
  | _, _ => none
def impl_written_enc (y : ByteArray) : Res T := ⟨[vR T 9 y], []⟩
theorem impl_written_de (res : Res T) (y : ByteArray) (h : impl_written_dec res = some y) : res = impl_written_enc y := by
  obtain ⟨rets, outs⟩ := res
  unfold impl_written_dec at h
  dsimp only at h
  split at h
  · obtain ⟨r0, h0, h⟩ := Option.bind_eq_some_iff.1 h
    cases h
    rw [retV_eq ok h0]
    rfl
  · cases h
def impl_SegsOk_dec (res : Res T) : Option Bool := match res.rets, res.outs with
  | [a0], [] => (retV (T := T) 4 a0).bind fun r0 => some (r0)
  | _, _ => none
def impl_SegsOk_enc (y : Bool) : Res T := ⟨[vR T 4 y], []⟩
theorem impl_SegsOk_de (res : Res T) (y : Bool) (h : impl_SegsOk_dec res = some y) : res = impl_SegsOk_enc y := by
  obtain ⟨rets, outs⟩ := res
  unfold impl_SegsOk_dec at h
  dsimp only at h
  split at h
  · obtain ⟨r0, h0, h⟩ := Option.bind_eq_some_iff.1 h
    cases h
    rw [retV_eq ok h0]
    rfl
  · cases h
def impl_WriteSegs_dec (res : Res T) : Option (ByteArray × Bool) := match res.rets, res.outs with
  | [a0, a1], [] => (retV (T := T) 9 a0).bind fun r0 => (retV (T := T) 4 a1).bind fun r1 => some (r0, r1)
  | _, _ => none
def impl_WriteSegs_enc (y : ByteArray × Bool) : Res T := ⟨[vR T 9 y.1, vR T 4 y.2], []⟩
theorem impl_WriteSegs_de (res : Res T) (y : ByteArray × Bool) (h : impl_WriteSegs_dec res = some y) : res = impl_WriteSegs_enc y := by
  obtain ⟨rets, outs⟩ := res
  unfold impl_WriteSegs_dec at h
  dsimp only at h
  split at h
  · obtain ⟨r0, h0, h⟩ := Option.bind_eq_some_iff.1 h
    obtain ⟨r1, h1, h⟩ := Option.bind_eq_some_iff.1 h
    cases h
    rw [retV_eq ok h0, retV_eq ok h1]
    rfl
  · cases h
def spec_l1In_dec (res : Res T) : Option Bool := match res.rets, res.outs with
  | [a0], [] => (retV (T := T) 4 a0).bind fun r0 => some (r0)
  | _, _ => none
def spec_l1In_enc (y : Bool) : Res T := ⟨[vR T 4 y], []⟩
theorem spec_l1In_de (res : Res T) (y : Bool) (h : spec_l1In_dec res = some y) : res = spec_l1In_enc y := by
  obtain ⟨rets, outs⟩ := res
  unfold spec_l1In_dec at h
  dsimp only at h
  split at h
  · obtain ⟨r0, h0, h⟩ := Option.bind_eq_some_iff.1 h
    cases h
    rw [retV_eq ok h0]
    rfl
  · cases h
def spec_l21Seg_dec (res : Res T) : Option Bool := match res.rets, res.outs with
  | [a0], [] => (retV (T := T) 4 a0).bind fun r0 => some (r0)
  | _, _ => none
def spec_l21Seg_enc (y : Bool) : Res T := ⟨[vR T 4 y], []⟩
theorem spec_l21Seg_de (res : Res T) (y : Bool) (h : spec_l21Seg_dec res = some y) : res = spec_l21Seg_enc y := by
  obtain ⟨rets, outs⟩ := res
  unfold spec_l21Seg_dec at h
  dsimp only at h
  split at h
  · obtain ⟨r0, h0, h⟩ := Option.bind_eq_some_iff.1 h
    cases h
    rw [retV_eq ok h0]
    rfl
  · cases h
def spec_l21Mark_dec (res : Res T) : Option Bool := match res.rets, res.outs with
  | [a0], [] => (retV (T := T) 4 a0).bind fun r0 => some (r0)
  | _, _ => none
def spec_l21Mark_enc (y : Bool) : Res T := ⟨[vR T 4 y], []⟩
theorem spec_l21Mark_de (res : Res T) (y : Bool) (h : spec_l21Mark_dec res = some y) : res = spec_l21Mark_enc y := by
  obtain ⟨rets, outs⟩ := res
  unfold spec_l21Mark_dec at h
  dsimp only at h
  split at h
  · obtain ⟨r0, h0, h⟩ := Option.bind_eq_some_iff.1 h
    cases h
    rw [retV_eq ok h0]
    rfl
  · cases h
def spec_l21Write_dec (res : Res T) : Option (List Int) := match res.rets, res.outs with
  | [a0], [] => (retV (T := T) 34 a0).bind fun r0 => some (r0)
  | _, _ => none
def spec_l21Write_enc (y : List Int) : Res T := ⟨[vR T 34 y], []⟩
theorem spec_l21Write_de (res : Res T) (y : List Int) (h : spec_l21Write_dec res = some y) : res = spec_l21Write_enc y := by
  obtain ⟨rets, outs⟩ := res
  unfold spec_l21Write_dec at h
  dsimp only at h
  split at h
  · obtain ⟨r0, h0, h⟩ := Option.bind_eq_some_iff.1 h
    cases h
    rw [retV_eq ok h0]
    rfl
  · cases h
def spec_SegsOk_dec (res : Res T) : Option Bool := match res.rets, res.outs with
  | [a0], [] => (retV (T := T) 4 a0).bind fun r0 => some (r0)
  | _, _ => none
def spec_SegsOk_enc (y : Bool) : Res T := ⟨[vR T 4 y], []⟩
theorem spec_SegsOk_de (res : Res T) (y : Bool) (h : spec_SegsOk_dec res = some y) : res = spec_SegsOk_enc y := by
  obtain ⟨rets, outs⟩ := res
  unfold spec_SegsOk_dec at h
  dsimp only at h
  split at h
  · obtain ⟨r0, h0, h⟩ := Option.bind_eq_some_iff.1 h
    cases h
    rw [retV_eq ok h0]
    rfl
  · cases h
def impl_ReadSegs_1_dec (res : Res T) : Option (SSeg × List Int) := match res.rets, res.outs with
  | [], [b0, b1] => (outV (T := T) 100 b0).bind fun r0 => (outV (T := T) 34 b1).bind fun r1 => some (r0, r1)
  | _, _ => none
def impl_ReadSegs_1_enc (y : SSeg × List Int) : Res T := ⟨[], [.var 100 y.1, .var 34 y.2]⟩
theorem impl_ReadSegs_1_de (res : Res T) (y : SSeg × List Int) (h : impl_ReadSegs_1_dec res = some y) : res = impl_ReadSegs_1_enc y := by
  obtain ⟨rets, outs⟩ := res
  unfold impl_ReadSegs_1_dec at h
  dsimp only at h
  split at h
  · obtain ⟨r0, h0, h⟩ := Option.bind_eq_some_iff.1 h
    obtain ⟨r1, h1, h⟩ := Option.bind_eq_some_iff.1 h
    cases h
    rw [outV_eq h0, outV_eq h1]
    rfl
  · cases h
def impl_marked_dec (res : Res T) : Option Bool := match res.rets, res.outs with
  | [a0], [] => (retV (T := T) 4 a0).bind fun r0 => some (r0)
  | _, _ => none
def impl_marked_enc (y : Bool) : Res T := ⟨[vR T 4 y], []⟩
theorem impl_marked_de (res : Res T) (y : Bool) (h : impl_marked_dec res = some y) : res = impl_marked_enc y := by
  obtain ⟨rets, outs⟩ := res
  unfold impl_marked_dec at h
  dsimp only at h
  split at h
  · obtain ⟨r0, h0, h⟩ := Option.bind_eq_some_iff.1 h
    cases h
    rw [retV_eq ok h0]
    rfl
  · cases h
def impl_own_string_dec (res : Res T) : Option (List ByteArray) := match res.rets, res.outs with
  | [a0], [] => (retV (T := T) 82 a0).bind fun r0 => some (r0)
  | _, _ => none
def impl_own_string_enc (y : List ByteArray) : Res T := ⟨[vR T 82 y], []⟩
theorem impl_own_string_de (res : Res T) (y : List ByteArray) (h : impl_own_string_dec res = some y) : res = impl_own_string_enc y := by
  obtain ⟨rets, outs⟩ := res
  unfold impl_own_string_dec at h
  dsimp only at h
  split at h
  · obtain ⟨r0, h0, h⟩ := Option.bind_eq_some_iff.1 h
    cases h
    rw [retV_eq ok h0]
    rfl
  · cases h
def impl_own_string_f142_dec (res : Res T) : Option (List (List ByteArray)) := match res.rets, res.outs with
  | [a0], [] => (retV (T := T) 98 a0).bind fun r0 => some (r0)
  | _, _ => none
def impl_own_string_f142_enc (y : List (List ByteArray)) : Res T := ⟨[vR T 98 y], []⟩
theorem impl_own_string_f142_de (res : Res T) (y : List (List ByteArray)) (h : impl_own_string_f142_dec res = some y) : res = impl_own_string_f142_enc y := by
  obtain ⟨rets, outs⟩ := res
  unfold impl_own_string_f142_dec at h
  dsimp only at h
  split at h
  · obtain ⟨r0, h0, h⟩ := Option.bind_eq_some_iff.1 h
    cases h
    rw [retV_eq ok h0]
    rfl
  · cases h
def impl_own_impl_Seg_dec (res : Res T) : Option (List SSeg) := match res.rets, res.outs with
  | [a0], [] => (retV (T := T) 89 a0).bind fun r0 => some (r0)
  | _, _ => none
def impl_own_impl_Seg_enc (y : List SSeg) : Res T := ⟨[vR T 89 y], []⟩
theorem impl_own_impl_Seg_de (res : Res T) (y : List SSeg) (h : impl_own_impl_Seg_dec res = some y) : res = impl_own_impl_Seg_enc y := by
  obtain ⟨rets, outs⟩ := res
  unfold impl_own_impl_Seg_dec at h
  dsimp only at h
  split at h
  · obtain ⟨r0, h0, h⟩ := Option.bind_eq_some_iff.1 h
    cases h
    rw [retV_eq ok h0]
    rfl
  · cases h
def impl_ReadSegs_dec (res : Res T) : Option (List SSeg × Int × Int) := match res.rets, res.outs with
  | [a0, a1, a2], [] => (retV (T := T) 89 a0).bind fun r0 => (retV (T := T) 3 a1).bind fun r1 => (retV (T := T) 3 a2).bind fun r2 => some (r0, r1, r2)
  | _, _ => none
def impl_ReadSegs_enc (y : List SSeg × Int × Int) : Res T := ⟨[vR T 89 y.1, vR T 3 y.2.1, vR T 3 y.2.2], []⟩
theorem impl_ReadSegs_de (res : Res T) (y : List SSeg × Int × Int) (h : impl_ReadSegs_dec res = some y) : res = impl_ReadSegs_enc y := by
  obtain ⟨rets, outs⟩ := res
  unfold impl_ReadSegs_dec at h
  dsimp only at h
  split at h
  · obtain ⟨r0, h0, h⟩ := Option.bind_eq_some_iff.1 h
    obtain ⟨r1, h1, h⟩ := Option.bind_eq_some_iff.1 h
    obtain ⟨r2, h2, h⟩ := Option.bind_eq_some_iff.1 h
    cases h
    rw [retV_eq ok h0, retV_eq ok h1, retV_eq ok h2]
    rfl
  · cases h
def spec_DrawReadSegs_dec (res : Res T) : Option ByteArray := match res.rets, res.outs with
  | [a0], [] => (retV (T := T) 9 a0).bind fun r0 => some (r0)
  | _, _ => none
def spec_DrawReadSegs_enc (y : ByteArray) : Res T := ⟨[vR T 9 y], []⟩
theorem spec_DrawReadSegs_de (res : Res T) (y : ByteArray) (h : spec_DrawReadSegs_dec res = some y) : res = spec_DrawReadSegs_enc y := by
  obtain ⟨rets, outs⟩ := res
  unfold spec_DrawReadSegs_dec at h
  dsimp only at h
  split at h
  · obtain ⟨r0, h0, h⟩ := Option.bind_eq_some_iff.1 h
    cases h
    rw [retV_eq ok h0]
    rfl
  · cases h
def laws_FnSegments_dec (res : Res T) : Option Bool := match res.rets, res.outs with
  | [a0], [] => (retV (T := T) 4 a0).bind fun r0 => some (r0)
  | _, _ => none
def laws_FnSegments_enc (y : Bool) : Res T := ⟨[vR T 4 y], []⟩
theorem laws_FnSegments_de (res : Res T) (y : Bool) (h : laws_FnSegments_dec res = some y) : res = laws_FnSegments_enc y := by
  obtain ⟨rets, outs⟩ := res
  unfold laws_FnSegments_dec at h
  dsimp only at h
  split at h
  · obtain ⟨r0, h0, h⟩ := Option.bind_eq_some_iff.1 h
    cases h
    rw [retV_eq ok h0]
    rfl
  · cases h
def laws_big_D (n : Nat) (r0 : List (A T)) : Option Bool := ocons r0 fun a0 r1 => onil r1 (obind (argV (T := T) 34 a0) fun code0 => laws_big n code0)
def laws_big_ent (n : Nat) : Ent T := ⟨21, 0, [], Bool, laws_big_D n, laws_big_enc⟩
def spec_l1New_D (n : Nat) (r0 : List (A T)) : Option Sl1Cur := ocons r0 fun a0 r1 => onil r1 (obind (argV (T := T) 34 a0) fun code0 => spec_l1New n code0)
def spec_l1New_ent (n : Nat) : Ent T := ⟨82, 1, [], Sl1Cur, spec_l1New_D n, spec_l1New_enc⟩
def spec_l1Byte_D (n : Nat) (r0 : List (A T)) : Option (Int × Sl1Cur) := ocons r0 fun a0 r1 => onil r1 (obind (argP (T := T) 184 a0) fun c0 => spec_l1Byte n c0)
def spec_l1Byte_ent (n : Nat) : Ent T := ⟨188, 2, [], Int × Sl1Cur, spec_l1Byte_D n, spec_l1Byte_enc⟩
def spec_l1Below_D (n : Nat) (r0 : List (A T)) : Option (Int × Sl1Cur) := ocons r0 fun a0 r1 => ocons r1 fun a1 r2 => onil r2 (obind (argP (T := T) 184 a0) fun c0 => obind (argV (T := T) 3 a1) fun n1 => spec_l1Below n c0 n1)
def spec_l1Below_ent (n : Nat) : Ent T := ⟨132, 3, [], Int × Sl1Cur, spec_l1Below_D n, spec_l1Below_enc⟩
def spec_l1Pick_D (n : Nat) (r0 : List (A T)) : Option (ByteArray × Sl1Cur) := ocons r0 fun a0 r1 => ocons r1 fun a1 r2 => onil r2 (obind (argP (T := T) 184 a0) fun c0 => obind (argV (T := T) 82 a1) fun list1 => spec_l1Pick n c0 list1)
def spec_l1Pick_ent (n : Nat) : Ent T := ⟨155, 4, [], ByteArray × Sl1Cur, spec_l1Pick_D n, spec_l1Pick_enc⟩
def spec_l1Once_D (n : Nat) (r0 : List (A T)) : Option (Bool × Sl1Cur) := ocons r0 fun a0 r1 => ocons r1 fun a1 r2 => onil r2 (obind (argP (T := T) 184 a0) fun c0 => obind (argV (T := T) 3 a1) fun n1 => spec_l1Once n c0 n1)
def spec_l1Once_ent (n : Nat) : Ent T := ⟨172, 5, [], Bool × Sl1Cur, spec_l1Once_D n, spec_l1Once_enc⟩
def spec_l21DrawText_D (n : Nat) (r0 : List (A T)) : Option (ByteArray × Sl1Cur) := ocons r0 fun a0 r1 => onil r1 (obind (argP (T := T) 184 a0) fun c0 => spec_l21DrawText n c0)
def spec_l21DrawText_ent (n : Nat) : Ent T := ⟨192, 6, [], ByteArray × Sl1Cur, spec_l21DrawText_D n, spec_l21DrawText_enc⟩
def spec_l1PickInt_D (n : Nat) (r0 : List (A T)) : Option (Int × Sl1Cur) := ocons r0 fun a0 r1 => ocons r1 fun a1 r2 => onil r2 (obind (argP (T := T) 184 a0) fun c0 => obind (argV (T := T) 24 a1) fun list1 => spec_l1PickInt n c0 list1)
def spec_l1PickInt_ent (n : Nat) : Ent T := ⟨190, 7, [], Int × Sl1Cur, spec_l1PickInt_D n, spec_l1PickInt_enc⟩
def spec_l21DrawSegs_D (n : Nat) (r0 : List (A T)) : Option (List SSeg × Sl1Cur) := ocons r0 fun a0 r1 => onil r1 (obind (argP (T := T) 184 a0) fun c0 => spec_l21DrawSegs n c0)
def spec_l21DrawSegs_ent (n : Nat) : Ent T := ⟨148, 8, [], List SSeg × Sl1Cur, spec_l21DrawSegs_D n, spec_l21DrawSegs_enc⟩
def spec_DrawWriteSegs_D (n : Nat) (r0 : List (A T)) : Option (List SSeg) := ocons r0 fun a0 r1 => onil r1 (obind (argV (T := T) 34 a0) fun code0 => spec_DrawWriteSegs n code0)
def spec_DrawWriteSegs_ent (n : Nat) : Ent T := ⟨58, 9, [], List SSeg, spec_DrawWriteSegs_D n, spec_DrawWriteSegs_enc⟩
def impl_capital_D (n : Nat) (r0 : List (A T)) : Option Bool := ocons r0 fun a0 r1 => onil r1 (obind (argV (T := T) 5 a0) fun c0 => impl_capital n c0)
def impl_capital_ent (n : Nat) : Ent T := ⟨137, 10, [], Bool, impl_capital_D n, impl_capital_enc⟩
def impl_in_D (n : Nat) (r0 : List (A T)) : Option Bool := ocons r0 fun a0 r1 => ocons r1 fun a1 r2 => ocons r2 fun a2 r3 => onil r3 (obind (argV (T := T) 3 a0) fun n0 => obind (argV (T := T) 3 a1) fun least1 => obind (argV (T := T) 3 a2) fun most2 => impl_in n n0 least1 most2)
def impl_in_ent (n : Nat) : Ent T := ⟨87, 11, [], Bool, impl_in_D n, impl_in_enc⟩
def impl_plain_D (n : Nat) (r0 : List (A T)) : Option Bool := ocons r0 fun a0 r1 => onil r1 (obind (argV (T := T) 5 a0) fun c0 => impl_plain n c0)
def impl_plain_ent (n : Nat) : Ent T := ⟨139, 12, [], Bool, impl_plain_D n, impl_plain_enc⟩
def impl_ediText_D (n : Nat) (r0 : List (A T)) : Option Bool := ocons r0 fun a0 r1 => onil r1 (obind (argV (T := T) 9 a0) fun s0 => impl_ediText n s0)
def impl_ediText_ent (n : Nat) : Ent T := ⟨198, 13, [], Bool, impl_ediText_D n, impl_ediText_enc⟩
def impl_segRight_1_D (n : Nat) (r0 : List (A T)) : Option Bool := ocons r0 fun a0 r1 => onil r1 (obind (argV (T := T) 9 a0) fun t0 => impl_segRight_1 n t0)
def impl_segRight_1_ent (n : Nat) : Ent T := ⟨197, 14, [], Bool, impl_segRight_1_D n, impl_segRight_1_enc⟩
def slices_IndexFunc_string_string__impl_segRight_1_D (n : Nat) (ar : List (A T)) : Option Int := match ar with
  | [a0, .fn _ []] => obind (argV (T := T) 82 a0) fun s0 => slices_IndexFunc_string_string__impl_segRight_1 n s0
  | _ => none
def slices_IndexFunc_string_string__impl_segRight_1_ent (n : Nat) : Ent T := ⟨183, 15, [197], Int, slices_IndexFunc_string_string__impl_segRight_1_D n, slices_IndexFunc_string_string__impl_segRight_1_enc⟩
def slices_ContainsFunc_string_string__impl_segRight_1_D (n : Nat) (ar : List (A T)) : Option Bool := match ar with
  | [a0, .fn _ []] => obind (argV (T := T) 82 a0) fun s0 => slices_ContainsFunc_string_string__impl_segRight_1 n s0
  | _ => none
def slices_ContainsFunc_string_string__impl_segRight_1_ent (n : Nat) : Ent T := ⟨125, 16, [197], Bool, slices_ContainsFunc_string_string__impl_segRight_1_D n, slices_ContainsFunc_string_string__impl_segRight_1_enc⟩
def impl_segRight_D (n : Nat) (r0 : List (A T)) : Option Bool := ocons r0 fun a0 r1 => onil r1 (obind (argV (T := T) 100 a0) fun s0 => impl_segRight n s0)
def impl_segRight_ent (n : Nat) : Ent T := ⟨154, 17, [], Bool, impl_segRight_D n, impl_segRight_enc⟩
def impl_SegsOk_1_D (n : Nat) (r0 : List (A T)) : Option Bool := ocons r0 fun a0 r1 => onil r1 (obind (argV (T := T) 100 a0) fun s0 => impl_SegsOk_1 n s0)
def impl_SegsOk_1_ent (n : Nat) : Ent T := ⟨153, 18, [], Bool, impl_SegsOk_1_D n, impl_SegsOk_1_enc⟩
def sIndex_SegsOk_1_D (n : Nat) (ar : List (A T)) : Option Int := match ar with
  | [a0, .fn _ []] => obind (argV (T := T) 89 a0) fun s0 => sIndex_SegsOk_1 n s0
  | _ => none
def sIndex_SegsOk_1_ent (n : Nat) : Ent T := ⟨196, 19, [153], Int, sIndex_SegsOk_1_D n, sIndex_SegsOk_1_enc⟩
def sContains_SegsOk_1_D (n : Nat) (ar : List (A T)) : Option Bool := match ar with
  | [a0, .fn _ []] => obind (argV (T := T) 89 a0) fun s0 => sContains_SegsOk_1 n s0
  | _ => none
def sContains_SegsOk_1_ent (n : Nat) : Ent T := ⟨152, 20, [153], Bool, sContains_SegsOk_1_D n, sContains_SegsOk_1_enc⟩
def impl_written_D (n : Nat) (r0 : List (A T)) : Option ByteArray := ocons r0 fun a0 r1 => onil r1 (obind (argV (T := T) 89 a0) fun l0 => impl_written n l0)
def impl_written_ent (n : Nat) : Ent T := ⟨149, 21, [], ByteArray, impl_written_D n, impl_written_enc⟩
def impl_SegsOk_D (n : Nat) (r0 : List (A T)) : Option Bool := ocons r0 fun a0 r1 => onil r1 (obind (argV (T := T) 89 a0) fun list0 => impl_SegsOk n list0)
def impl_SegsOk_ent (n : Nat) : Ent T := ⟨61, 22, [], Bool, impl_SegsOk_D n, impl_SegsOk_enc⟩
def impl_WriteSegs_D (n : Nat) (r0 : List (A T)) : Option (ByteArray × Bool) := ocons r0 fun a0 r1 => onil r1 (obind (argV (T := T) 89 a0) fun list0 => impl_WriteSegs n list0)
def impl_WriteSegs_ent (n : Nat) : Ent T := ⟨59, 23, [], ByteArray × Bool, impl_WriteSegs_D n, impl_WriteSegs_enc⟩
def spec_l1In_D (n : Nat) (r0 : List (A T)) : Option Bool := ocons r0 fun a0 r1 => ocons r1 fun a1 r2 => ocons r2 fun a2 r3 => onil r3 (obind (argV (T := T) 3 a0) fun x0 => obind (argV (T := T) 3 a1) fun a1 => obind (argV (T := T) 3 a2) fun b2 => spec_l1In n x0 a1 b2)
def spec_l1In_ent (n : Nat) : Ent T := ⟨73, 24, [], Bool, spec_l1In_D n, spec_l1In_enc⟩
def spec_l21Seg_D (n : Nat) (r0 : List (A T)) : Option Bool := ocons r0 fun a0 r1 => onil r1 (obind (argV (T := T) 100 a0) fun s0 => spec_l21Seg n s0)
def spec_l21Seg_ent (n : Nat) : Ent T := ⟨150, 25, [], Bool, spec_l21Seg_D n, spec_l21Seg_enc⟩
def spec_l21Mark_D (n : Nat) (r0 : List (A T)) : Option Bool := ocons r0 fun a0 r1 => onil r1 (obind (argV (T := T) 5 a0) fun b0 => spec_l21Mark n b0)
def spec_l21Mark_ent (n : Nat) : Ent T := ⟨136, 26, [], Bool, spec_l21Mark_D n, spec_l21Mark_enc⟩
def spec_l21Write_D (n : Nat) (r0 : List (A T)) : Option (List Int) := ocons r0 fun a0 r1 => onil r1 (obind (argV (T := T) 89 a0) fun list0 => spec_l21Write n list0)
def spec_l21Write_ent (n : Nat) : Ent T := ⟨151, 27, [], List Int, spec_l21Write_D n, spec_l21Write_enc⟩
def spec_SegsOk_D (n : Nat) (r0 : List (A T)) : Option Bool := ocons r0 fun a0 r1 => onil r1 (obind (argV (T := T) 89 a0) fun list0 => spec_SegsOk n list0)
def spec_SegsOk_ent (n : Nat) : Ent T := ⟨60, 28, [], Bool, spec_SegsOk_D n, spec_SegsOk_enc⟩
def impl_ReadSegs_1_D (n : Nat) (r0 : List (A T)) : Option (SSeg × List Int) := ocons r0 fun a0 r1 => ocons r1 fun a1 r2 => onil r2 (obind (argP (T := T) 100 a0) fun a0 => obind (argP (T := T) 34 a1) fun a1 => impl_ReadSegs_1 n a0 a1)
def impl_ReadSegs_1_ent (n : Nat) : Ent T := ⟨138, 29, [], SSeg × List Int, impl_ReadSegs_1_D n, impl_ReadSegs_1_enc⟩
def impl_marked_D (n : Nat) (r0 : List (A T)) : Option Bool := ocons r0 fun a0 r1 => onil r1 (obind (argV (T := T) 5 a0) fun c0 => impl_marked n c0)
def impl_marked_ent (n : Nat) : Ent T := ⟨140, 30, [], Bool, impl_marked_D n, impl_marked_enc⟩
def impl_own_string_D (n : Nat) (r0 : List (A T)) : Option (List ByteArray) := ocons r0 fun a0 r1 => onil r1 (obind (argV (T := T) 82 a0) fun l0 => impl_own_string n l0)
def impl_own_string_ent (n : Nat) : Ent T := ⟨141, 31, [], List ByteArray, impl_own_string_D n, impl_own_string_enc⟩
def impl_own_string_f142_D (n : Nat) (r0 : List (A T)) : Option (List (List ByteArray)) := ocons r0 fun a0 r1 => onil r1 (obind (argV (T := T) 98 a0) fun l0 => impl_own_string_f142 n l0)
def impl_own_string_f142_ent (n : Nat) : Ent T := ⟨142, 32, [], List (List ByteArray), impl_own_string_f142_D n, impl_own_string_f142_enc⟩
def impl_own_impl_Seg_D (n : Nat) (r0 : List (A T)) : Option (List SSeg) := ocons r0 fun a0 r1 => onil r1 (obind (argV (T := T) 89 a0) fun l0 => impl_own_impl_Seg n l0)
def impl_own_impl_Seg_ent (n : Nat) : Ent T := ⟨143, 33, [], List SSeg, impl_own_impl_Seg_D n, impl_own_impl_Seg_enc⟩
def impl_ReadSegs_D (n : Nat) (r0 : List (A T)) : Option (List SSeg × Int × Int) := ocons r0 fun a0 r1 => onil r1 (obind (argV (T := T) 9 a0) fun text0 => impl_ReadSegs n text0)
def impl_ReadSegs_ent (n : Nat) : Ent T := ⟨54, 34, [], List SSeg × Int × Int, impl_ReadSegs_D n, impl_ReadSegs_enc⟩
def spec_DrawReadSegs_D (n : Nat) (r0 : List (A T)) : Option ByteArray := ocons r0 fun a0 r1 => onil r1 (obind (argV (T := T) 34 a0) fun code0 => spec_DrawReadSegs n code0)
def spec_DrawReadSegs_ent (n : Nat) : Ent T := ⟨62, 35, [], ByteArray, spec_DrawReadSegs_D n, spec_DrawReadSegs_enc⟩
def laws_FnSegments_D (n : Nat) (r0 : List (A T)) : Option Bool := ocons r0 fun a0 r1 => onil r1 (obind (argV (T := T) 34 a0) fun code0 => laws_FnSegments n code0)
def laws_FnSegments_ent (n : Nat) : Ent T := ⟨10, 36, [], Bool, laws_FnSegments_D n, laws_FnSegments_enc⟩
def ents (n : Nat) : List (Ent T) := [laws_big_ent n, spec_l1New_ent n, spec_l1Byte_ent n, spec_l1Below_ent n, spec_l1Pick_ent n, spec_l1Once_ent n, spec_l21DrawText_ent n, spec_l1PickInt_ent n, spec_l21DrawSegs_ent n, spec_DrawWriteSegs_ent n, impl_capital_ent n, impl_in_ent n, impl_plain_ent n, impl_ediText_ent n, impl_segRight_1_ent n, slices_IndexFunc_string_string__impl_segRight_1_ent n, slices_ContainsFunc_string_string__impl_segRight_1_ent n, impl_segRight_ent n, impl_SegsOk_1_ent n, sIndex_SegsOk_1_ent n, sContains_SegsOk_1_ent n, impl_written_ent n, impl_SegsOk_ent n, impl_WriteSegs_ent n, spec_l1In_ent n, spec_l21Seg_ent n, spec_l21Mark_ent n, spec_l21Write_ent n, spec_SegsOk_ent n, impl_ReadSegs_1_ent n, impl_marked_ent n, impl_own_string_ent n, impl_own_string_f142_ent n, impl_own_impl_Seg_ent n, impl_ReadSegs_ent n, spec_DrawReadSegs_ent n, laws_FnSegments_ent n]
abbrev Phi (n i : Nat) {R : Type} (f : Nat) (ar : List (A T)) (K : Res T → Option R) : Option R := PhiE (ents n) i f ar K
theorem mixed : Try.prog.follows .mixedOrders = true := by kernel_rfl
noncomputable def laws_big_code : Code := match Try.f21.body with | some c => c | none => .skip
def laws_big_ann : Ann := fun id => none
def laws_big_Ls (n : Nat) : Nat → Option (LSpec T) := fun id => none
theorem laws_big_tie (n : Nat) (code0 : List Int) : evF (T := T) (Phi n 0) (laws_big_Ls n) laws_big_ann n Try.f21 (sg 21) [vA T 34 code0] laws_big_dec = laws_big n code0 := by kernel_rfl
theorem laws_big_lo (n : Nat) : LoopsOk (T := T) (Phi n 0) (laws_big_Ls n) laws_big_ann n laws_big_code := loopsOk_all (cs := []) (by kernel_rfl) trivial
theorem laws_big_ok (n : Nat) : EntOk Try.prog (ents n) (laws_big_ent n) := by
  intro hs ar y hg h
  replace h : laws_big_D n ar = some y := h
  unfold laws_big_D at h
  replace h := ocons_some h
  obtain ⟨a0, r0, rfl, h⟩ := h
  replace h := onil_some h
  obtain ⟨rfl, h⟩ := h
  obtain ⟨code0, qh0, h⟩ := obind_some h
  rw [argV_eq ok qh0]
  exact call_of (phiE_nat _ _) hs ok mixed Try.func21 (c := laws_big_code) (by kernel_rfl) (laws_big_lo n) (by kernel_rfl) (by kernel_rfl) (by kernel_rfl) laws_big_de ((laws_big_tie n code0).trans h)
noncomputable def spec_l1New_code : Code := match Try.f82.body with | some c => c | none => .skip
def spec_l1New_3_sv : List Sv := [.one (.arr 5), .one (.int .i64), .one (.int .i64)]
def spec_l1New_3_so : List So := []
def spec_l1New_3_emb (c : List Int) (x : Int × Int) : EVs T spec_l1New_3_sv × EOs T spec_l1New_3_so := ((c, x.1, x.2, ()), ())
def spec_l1New_3_prj (y : EVs T spec_l1New_3_sv × EOs T spec_l1New_3_so) : List Int × (Int × Int) := ((y.1.1), (y.1.2.1, y.1.2.2.1))
def spec_l1New_3_b (n : Nat) {R : Type} (K : Ex → Sm.St T → Option R) (c : List Int) (x : Int × Int) (J : (Int × Int) → Option R) : Option R :=
  spec_l1New_L3 n (fun (y1 : Int) => K (.exit 0) (stOf (T := T) [0, 3] [] [.one (.arr 5), .one (.int .i64)] [] (c, y1, ()) ())) (fun z0 z1 => J (z0, z1)) c x.1 x.2
def spec_l1New_3_sp (n : Nat) : LSpec T := mkSpec T ⟨[], [0, 3, 4], []⟩ spec_l1New_3_sv spec_l1New_3_so (List Int) (Int × Int) spec_l1New_3_emb spec_l1New_3_prj (spec_l1New_3_b n)
noncomputable def spec_l1New_3_c : Code := ((loopCodes spec_l1New_code)[0]?).getD .skip
def spec_l1New_ann : Ann := fun id => bif Nat.beq id 3000003 then some ⟨[], [0, 3], []⟩ else none
def spec_l1New_Ls (n : Nat) : Nat → Option (LSpec T) := fun id => bif Nat.beq id 3 then some (spec_l1New_3_sp n) else none
theorem spec_l1New_3_le (n : Nat) : LoopEq (T := T) (Phi n 1) (spec_l1New_Ls n) spec_l1New_ann n spec_l1New_3_c (spec_l1New_3_sp n) := ⟨mkSpec_dec (fun y => rfl), fun c x => by kernel_rfl, fun K J c x => by kernel_rfl⟩
theorem spec_l1New_tie (n : Nat) (code0 : List Int) : evF (T := T) (Phi n 1) (spec_l1New_Ls n) spec_l1New_ann n Try.f82 (sg 82) [vA T 34 code0] spec_l1New_dec = spec_l1New n code0 := by kernel_rfl
theorem spec_l1New_lo (n : Nat) : LoopsOk (T := T) (Phi n 1) (spec_l1New_Ls n) spec_l1New_ann n spec_l1New_code := loopsOk_all (cs := [spec_l1New_3_c]) (by kernel_rfl) ⟨⟨_, by kernel_rfl, spec_l1New_3_le n⟩, trivial⟩
theorem spec_l1New_ok (n : Nat) : EntOk Try.prog (ents n) (spec_l1New_ent n) := by
  intro hs ar y hg h
  replace h : spec_l1New_D n ar = some y := h
  unfold spec_l1New_D at h
  replace h := ocons_some h
  obtain ⟨a0, r0, rfl, h⟩ := h
  replace h := onil_some h
  obtain ⟨rfl, h⟩ := h
  obtain ⟨code0, qh0, h⟩ := obind_some h
  rw [argV_eq ok qh0]
  exact call_of (phiE_nat _ _) hs ok mixed Try.func82 (c := spec_l1New_code) (by kernel_rfl) (spec_l1New_lo n) (by kernel_rfl) (by kernel_rfl) (by kernel_rfl) spec_l1New_de ((spec_l1New_tie n code0).trans h)
noncomputable def spec_l1Byte_code : Code := match Try.f188.body with | some c => c | none => .skip
def spec_l1Byte_ann : Ann := fun id => none
def spec_l1Byte_Ls (n : Nat) : Nat → Option (LSpec T) := fun id => none
theorem spec_l1Byte_tie (n : Nat) (c0 : Sl1Cur) : evF (T := T) (Phi n 2) (spec_l1Byte_Ls n) spec_l1Byte_ann n Try.f188 (sg 188) [.ptr 184 c0] spec_l1Byte_dec = spec_l1Byte n c0 := by kernel_rfl
theorem spec_l1Byte_lo (n : Nat) : LoopsOk (T := T) (Phi n 2) (spec_l1Byte_Ls n) spec_l1Byte_ann n spec_l1Byte_code := loopsOk_all (cs := []) (by kernel_rfl) trivial
theorem spec_l1Byte_ok (n : Nat) : EntOk Try.prog (ents n) (spec_l1Byte_ent n) := by
  intro hs ar y hg h
  replace h : spec_l1Byte_D n ar = some y := h
  unfold spec_l1Byte_D at h
  replace h := ocons_some h
  obtain ⟨a0, r0, rfl, h⟩ := h
  replace h := onil_some h
  obtain ⟨rfl, h⟩ := h
  obtain ⟨c0, qh0, h⟩ := obind_some h
  rw [argP_eq qh0]
  exact call_of (phiE_nat _ _) hs ok mixed Try.func188 (c := spec_l1Byte_code) (by kernel_rfl) (spec_l1Byte_lo n) (by kernel_rfl) (by kernel_rfl) (by kernel_rfl) spec_l1Byte_de ((spec_l1Byte_tie n c0).trans h)
noncomputable def spec_l1Below_code : Code := match Try.f132.body with | some c => c | none => .skip
def spec_l1Below_ann : Ann := fun id => none
def spec_l1Below_Ls (n : Nat) : Nat → Option (LSpec T) := fun id => none
theorem spec_l1Below_tie (n : Nat) (c0 : Sl1Cur) (n1 : Int) : evF (T := T) (Phi n 3) (spec_l1Below_Ls n) spec_l1Below_ann n Try.f132 (sg 132) [.ptr 184 c0, vA T 3 n1] spec_l1Below_dec = spec_l1Below n c0 n1 := by kernel_rfl
theorem spec_l1Below_lo (n : Nat) : LoopsOk (T := T) (Phi n 3) (spec_l1Below_Ls n) spec_l1Below_ann n spec_l1Below_code := loopsOk_all (cs := []) (by kernel_rfl) trivial
theorem spec_l1Below_ok (n : Nat) : EntOk Try.prog (ents n) (spec_l1Below_ent n) := by
  intro hs ar y hg h
  replace h : spec_l1Below_D n ar = some y := h
  unfold spec_l1Below_D at h
  replace h := ocons_some h
  obtain ⟨a0, r0, rfl, h⟩ := h
  replace h := ocons_some h
  obtain ⟨a1, r1, rfl, h⟩ := h
  replace h := onil_some h
  obtain ⟨rfl, h⟩ := h
  obtain ⟨c0, qh0, h⟩ := obind_some h
  obtain ⟨n1, qh1, h⟩ := obind_some h
  rw [argP_eq qh0, argV_eq ok qh1]
  exact call_of (phiE_nat _ _) hs ok mixed Try.func132 (c := spec_l1Below_code) (by kernel_rfl) (spec_l1Below_lo n) (by kernel_rfl) (by kernel_rfl) (by kernel_rfl) spec_l1Below_de ((spec_l1Below_tie n c0 n1).trans h)
noncomputable def spec_l1Pick_code : Code := match Try.f155.body with | some c => c | none => .skip
def spec_l1Pick_ann : Ann := fun id => none
def spec_l1Pick_Ls (n : Nat) : Nat → Option (LSpec T) := fun id => none
theorem spec_l1Pick_tie (n : Nat) (c0 : Sl1Cur) (list1 : List ByteArray) : evF (T := T) (Phi n 4) (spec_l1Pick_Ls n) spec_l1Pick_ann n Try.f155 (sg 155) [.ptr 184 c0, vA T 82 list1] spec_l1Pick_dec = spec_l1Pick n c0 list1 := by kernel_rfl
theorem spec_l1Pick_lo (n : Nat) : LoopsOk (T := T) (Phi n 4) (spec_l1Pick_Ls n) spec_l1Pick_ann n spec_l1Pick_code := loopsOk_all (cs := []) (by kernel_rfl) trivial
theorem spec_l1Pick_ok (n : Nat) : EntOk Try.prog (ents n) (spec_l1Pick_ent n) := by
  intro hs ar y hg h
  replace h : spec_l1Pick_D n ar = some y := h
  unfold spec_l1Pick_D at h
  replace h := ocons_some h
  obtain ⟨a0, r0, rfl, h⟩ := h
  replace h := ocons_some h
  obtain ⟨a1, r1, rfl, h⟩ := h
  replace h := onil_some h
  obtain ⟨rfl, h⟩ := h
  obtain ⟨c0, qh0, h⟩ := obind_some h
  obtain ⟨list1, qh1, h⟩ := obind_some h
  rw [argP_eq qh0, argV_eq ok qh1]
  exact call_of (phiE_nat _ _) hs ok mixed Try.func155 (c := spec_l1Pick_code) (by kernel_rfl) (spec_l1Pick_lo n) (by kernel_rfl) (by kernel_rfl) (by kernel_rfl) spec_l1Pick_de ((spec_l1Pick_tie n c0 list1).trans h)
noncomputable def spec_l1Once_code : Code := match Try.f172.body with | some c => c | none => .skip
def spec_l1Once_ann : Ann := fun id => none
def spec_l1Once_Ls (n : Nat) : Nat → Option (LSpec T) := fun id => none
theorem spec_l1Once_tie (n : Nat) (c0 : Sl1Cur) (n1 : Int) : evF (T := T) (Phi n 5) (spec_l1Once_Ls n) spec_l1Once_ann n Try.f172 (sg 172) [.ptr 184 c0, vA T 3 n1] spec_l1Once_dec = spec_l1Once n c0 n1 := by kernel_rfl
theorem spec_l1Once_lo (n : Nat) : LoopsOk (T := T) (Phi n 5) (spec_l1Once_Ls n) spec_l1Once_ann n spec_l1Once_code := loopsOk_all (cs := []) (by kernel_rfl) trivial
theorem spec_l1Once_ok (n : Nat) : EntOk Try.prog (ents n) (spec_l1Once_ent n) := by
  intro hs ar y hg h
  replace h : spec_l1Once_D n ar = some y := h
  unfold spec_l1Once_D at h
  replace h := ocons_some h
  obtain ⟨a0, r0, rfl, h⟩ := h
  replace h := ocons_some h
  obtain ⟨a1, r1, rfl, h⟩ := h
  replace h := onil_some h
  obtain ⟨rfl, h⟩ := h
  obtain ⟨c0, qh0, h⟩ := obind_some h
  obtain ⟨n1, qh1, h⟩ := obind_some h
  rw [argP_eq qh0, argV_eq ok qh1]
  exact call_of (phiE_nat _ _) hs ok mixed Try.func172 (c := spec_l1Once_code) (by kernel_rfl) (spec_l1Once_lo n) (by kernel_rfl) (by kernel_rfl) (by kernel_rfl) spec_l1Once_de ((spec_l1Once_tie n c0 n1).trans h)
noncomputable def spec_l21DrawText_code : Code := match Try.f192.body with | some c => c | none => .skip
def spec_l21DrawText_6_sv : List Sv := [.one (.ptr 4503599627370496 0 0), .one (.own 3000000 5 false), .one (.int .i64), .one (.int .i64)]
def spec_l21DrawText_6_so : List So := [.var [.arr 5, .int .i64, .int .i64], .arr 5 false]
def spec_l21DrawText_6_emb (c : Int) (x : Int × Sl1Cur × List Int) : EVs T spec_l21DrawText_6_sv × EOs T spec_l21DrawText_6_so := (((), (), c, x.1, ()), ((x.2.1.b, x.2.1.i, x.2.1.h, ()), x.2.2, ()))
def spec_l21DrawText_6_prj (y : EVs T spec_l21DrawText_6_sv × EOs T spec_l21DrawText_6_so) : Int × (Int × Sl1Cur × List Int) := ((y.1.2.2.1), (y.1.2.2.2.1, ((⟨y.2.1.1, y.2.1.2.1, y.2.1.2.2.1⟩ : Sl1Cur) : Sl1Cur), y.2.2.1))
def spec_l21DrawText_6_b (n : Nat) {R : Type} (K : Ex → Sm.St T → Option R) (c : Int) (x : Int × Sl1Cur × List Int) (J : (Int × Sl1Cur × List Int) → Option R) : Option R :=
  spec_l21DrawText_L6 n (fun (y0 : List Int) (y1 : Sl1Cur) => K (.exit 0) (stOf (T := T) [3] [3000000, 4503599627370496] [.one (.own 3000000 5 false)] [.arr 5 false, .var [.arr 5, .int .i64, .int .i64]] ((), ()) (y0, (y1.b, y1.i, y1.h, ()), ()))) (fun z0 z1 z2 => J (z0, z1, z2)) c x.1 x.2.1 x.2.2
def spec_l21DrawText_6_sp (n : Nat) : LSpec T := mkSpec T ⟨[((.reg 3), 3000000, 5)], [0, 3, 4, 5], [4503599627370496, 3000000]⟩ spec_l21DrawText_6_sv spec_l21DrawText_6_so (Int) (Int × Sl1Cur × List Int) spec_l21DrawText_6_emb spec_l21DrawText_6_prj (spec_l21DrawText_6_b n)
noncomputable def spec_l21DrawText_6_c : Code := ((loopCodes spec_l21DrawText_code)[0]?).getD .skip
def spec_l21DrawText_ann : Ann := fun id => bif Nat.beq id 3000006 then some ⟨[((.reg 3), 3000000, 5)], [3], [3000000, 4503599627370496]⟩ else none
def spec_l21DrawText_Ls (n : Nat) : Nat → Option (LSpec T) := fun id => bif Nat.beq id 6 then some (spec_l21DrawText_6_sp n) else none
theorem spec_l21DrawText_6_le (n : Nat) : LoopEq (T := T) (Phi n 6) (spec_l21DrawText_Ls n) spec_l21DrawText_ann n spec_l21DrawText_6_c (spec_l21DrawText_6_sp n) := ⟨mkSpec_dec (fun y => rfl), fun c x => by kernel_rfl, fun K J c x => by kernel_rfl⟩
theorem spec_l21DrawText_tie (n : Nat) (c0 : Sl1Cur) : evF (T := T) (Phi n 6) (spec_l21DrawText_Ls n) spec_l21DrawText_ann n Try.f192 (sg 192) [.ptr 184 c0] spec_l21DrawText_dec = spec_l21DrawText n c0 := by kernel_rfl
theorem spec_l21DrawText_lo (n : Nat) : LoopsOk (T := T) (Phi n 6) (spec_l21DrawText_Ls n) spec_l21DrawText_ann n spec_l21DrawText_code := loopsOk_all (cs := [spec_l21DrawText_6_c]) (by kernel_rfl) ⟨⟨_, by kernel_rfl, spec_l21DrawText_6_le n⟩, trivial⟩
theorem spec_l21DrawText_ok (n : Nat) : EntOk Try.prog (ents n) (spec_l21DrawText_ent n) := by
  intro hs ar y hg h
  replace h : spec_l21DrawText_D n ar = some y := h
  unfold spec_l21DrawText_D at h
  replace h := ocons_some h
  obtain ⟨a0, r0, rfl, h⟩ := h
  replace h := onil_some h
  obtain ⟨rfl, h⟩ := h
  obtain ⟨c0, qh0, h⟩ := obind_some h
  rw [argP_eq qh0]
  exact call_of (phiE_nat _ _) hs ok mixed Try.func192 (c := spec_l21DrawText_code) (by kernel_rfl) (spec_l21DrawText_lo n) (by kernel_rfl) (by kernel_rfl) (by kernel_rfl) spec_l21DrawText_de ((spec_l21DrawText_tie n c0).trans h)
noncomputable def spec_l1PickInt_code : Code := match Try.f190.body with | some c => c | none => .skip
def spec_l1PickInt_ann : Ann := fun id => none
def spec_l1PickInt_Ls (n : Nat) : Nat → Option (LSpec T) := fun id => none
theorem spec_l1PickInt_tie (n : Nat) (c0 : Sl1Cur) (list1 : List Int) : evF (T := T) (Phi n 7) (spec_l1PickInt_Ls n) spec_l1PickInt_ann n Try.f190 (sg 190) [.ptr 184 c0, vA T 24 list1] spec_l1PickInt_dec = spec_l1PickInt n c0 list1 := by kernel_rfl
theorem spec_l1PickInt_lo (n : Nat) : LoopsOk (T := T) (Phi n 7) (spec_l1PickInt_Ls n) spec_l1PickInt_ann n spec_l1PickInt_code := loopsOk_all (cs := []) (by kernel_rfl) trivial
theorem spec_l1PickInt_ok (n : Nat) : EntOk Try.prog (ents n) (spec_l1PickInt_ent n) := by
  intro hs ar y hg h
  replace h : spec_l1PickInt_D n ar = some y := h
  unfold spec_l1PickInt_D at h
  replace h := ocons_some h
  obtain ⟨a0, r0, rfl, h⟩ := h
  replace h := ocons_some h
  obtain ⟨a1, r1, rfl, h⟩ := h
  replace h := onil_some h
  obtain ⟨rfl, h⟩ := h
  obtain ⟨c0, qh0, h⟩ := obind_some h
  obtain ⟨list1, qh1, h⟩ := obind_some h
  rw [argP_eq qh0, argV_eq ok qh1]
  exact call_of (phiE_nat _ _) hs ok mixed Try.func190 (c := spec_l1PickInt_code) (by kernel_rfl) (spec_l1PickInt_lo n) (by kernel_rfl) (by kernel_rfl) (by kernel_rfl) spec_l1PickInt_de ((spec_l1PickInt_tie n c0 list1).trans h)
noncomputable def spec_l21DrawSegs_code : Code := match Try.f148.body with | some c => c | none => .skip
def spec_l21DrawSegs_3_sv : List Sv := [.one (.ptr 4503599627370496 0 0), .one (.own 3000000 100 false), .one (.int .i64)]
def spec_l21DrawSegs_3_so : List So := [.var [.arr 5, .int .i64, .int .i64], .arr 100 false]
def spec_l21DrawSegs_3_emb (c : Unit) (x : Int × Sl1Cur × List SSeg) : EVs T spec_l21DrawSegs_3_sv × EOs T spec_l21DrawSegs_3_so := (((), (), x.1, ()), ((x.2.1.b, x.2.1.i, x.2.1.h, ()), x.2.2, ()))
def spec_l21DrawSegs_3_prj (y : EVs T spec_l21DrawSegs_3_sv × EOs T spec_l21DrawSegs_3_so) : Unit × (Int × Sl1Cur × List SSeg) := ((), (y.1.2.2.1, ((⟨y.2.1.1, y.2.1.2.1, y.2.1.2.2.1⟩ : Sl1Cur) : Sl1Cur), y.2.2.1))
def spec_l21DrawSegs_3_b (n : Nat) {R : Type} (K : Ex → Sm.St T → Option R) (c : Unit) (x : Int × Sl1Cur × List SSeg) (J : (Int × Sl1Cur × List SSeg) → Option R) : Option R :=
  spec_l21DrawSegs_L3 n (fun (y0 : Sl1Cur) (y1 : List SSeg) => K (.exit 0) (stOf (T := T) [0, 3] [4503599627370496, 3000000] [.one (.ptr 4503599627370496 0 0), .one (.own 3000000 100 false)] [.var [.arr 5, .int .i64, .int .i64], .arr 100 false] ((), (), ()) ((y0.b, y0.i, y0.h, ()), y1, ()))) (fun z0 z1 z2 => J (z0, z1, z2)) x.1 x.2.1 x.2.2
def spec_l21DrawSegs_3_sp (n : Nat) : LSpec T := mkSpec T ⟨[((.reg 3), 3000000, 100)], [0, 3, 4], [4503599627370496, 3000000]⟩ spec_l21DrawSegs_3_sv spec_l21DrawSegs_3_so (Unit) (Int × Sl1Cur × List SSeg) spec_l21DrawSegs_3_emb spec_l21DrawSegs_3_prj (spec_l21DrawSegs_3_b n)
noncomputable def spec_l21DrawSegs_3_c : Code := ((loopCodes spec_l21DrawSegs_code)[0]?).getD .skip
def spec_l21DrawSegs_7_sv : List Sv := [.one (.ptr 4503599627370496 0 0), .one (.own 3000000 100 false), .one (.int .i64), .one (.ptr 40 0 0), .one (.int .i64)]
def spec_l21DrawSegs_7_so : List So := [.var [.arr 5, .int .i64, .int .i64], .arr 100 false, .var [.str, .own 3000001 82 false], .arr 82 false]
def spec_l21DrawSegs_7_emb (c : Int × List SSeg × ByteArray) (x : Int × Sl1Cur × List (List ByteArray)) : EVs T spec_l21DrawSegs_7_sv × EOs T spec_l21DrawSegs_7_so := (((), (), c.1, (), x.1, ()), ((x.2.1.b, x.2.1.i, x.2.1.h, ()), c.2.1, (c.2.2, (), ()), x.2.2, ()))
def spec_l21DrawSegs_7_prj (y : EVs T spec_l21DrawSegs_7_sv × EOs T spec_l21DrawSegs_7_so) : (Int × List SSeg × ByteArray) × (Int × Sl1Cur × List (List ByteArray)) := ((y.1.2.2.1, y.2.2.1, y.2.2.2.1.1), (y.1.2.2.2.2.1, ((⟨y.2.1.1, y.2.1.2.1, y.2.1.2.2.1⟩ : Sl1Cur) : Sl1Cur), y.2.2.2.2.1))
def spec_l21DrawSegs_7_b (n : Nat) {R : Type} (K : Ex → Sm.St T → Option R) (c : Int × List SSeg × ByteArray) (x : Int × Sl1Cur × List (List ByteArray)) (J : (Int × Sl1Cur × List (List ByteArray)) → Option R) : Option R :=
  spec_l21DrawSegs_L7 n (fun (y1 : Sl1Cur) (y4 : List (List ByteArray)) => K (.exit 2) (stOf (T := T) [0, 3, 4, 5] [4503599627370496, 3000000, 40, 3000001] [.one (.ptr 4503599627370496 0 0), .one (.own 3000000 100 false), .one (.int .i64), .one (.ptr 40 0 0)] [.var [.arr 5, .int .i64, .int .i64], .arr 100 false, .var [.str, .own 3000001 82 false], .arr 82 false] ((), (), c.1, (), ()) ((y1.b, y1.i, y1.h, ()), c.2.1, (c.2.2, (), ()), y4, ()))) (fun z0 z1 z2 => J (z0, z1, z2)) c.1 x.1 x.2.1 c.2.1 c.2.2 x.2.2
def spec_l21DrawSegs_7_sp (n : Nat) : LSpec T := mkSpec T ⟨[((.reg 3), 3000000, 100), ((.cell 40 1), 3000001, 82)], [0, 3, 4, 5, 6], [4503599627370496, 3000000, 40, 3000001]⟩ spec_l21DrawSegs_7_sv spec_l21DrawSegs_7_so (Int × List SSeg × ByteArray) (Int × Sl1Cur × List (List ByteArray)) spec_l21DrawSegs_7_emb spec_l21DrawSegs_7_prj (spec_l21DrawSegs_7_b n)
noncomputable def spec_l21DrawSegs_7_c : Code := ((loopCodes spec_l21DrawSegs_code)[1]?).getD .skip
def spec_l21DrawSegs_11_sv : List Sv := [.one (.ptr 4503599627370496 0 0), .one (.own 3000000 100 false), .one (.int .i64), .one (.ptr 40 0 0), .one (.int .i64), .one (.own 3000002 9 false), .one (.int .i64)]
def spec_l21DrawSegs_11_so : List So := [.var [.arr 5, .int .i64, .int .i64], .arr 100 false, .var [.str, .own 3000001 82 false], .arr 82 false, .arr 9 false]
def spec_l21DrawSegs_11_emb (c : Int × Int × List SSeg × ByteArray × List (List ByteArray)) (x : Int × Sl1Cur × List ByteArray) : EVs T spec_l21DrawSegs_11_sv × EOs T spec_l21DrawSegs_11_so := (((), (), c.1, (), c.2.1, (), x.1, ()), ((x.2.1.b, x.2.1.i, x.2.1.h, ()), c.2.2.1, (c.2.2.2.1, (), ()), c.2.2.2.2, x.2.2, ()))
def spec_l21DrawSegs_11_prj (y : EVs T spec_l21DrawSegs_11_sv × EOs T spec_l21DrawSegs_11_so) : (Int × Int × List SSeg × ByteArray × List (List ByteArray)) × (Int × Sl1Cur × List ByteArray) := ((y.1.2.2.1, y.1.2.2.2.2.1, y.2.2.1, y.2.2.2.1.1, y.2.2.2.2.1), (y.1.2.2.2.2.2.2.1, ((⟨y.2.1.1, y.2.1.2.1, y.2.1.2.2.1⟩ : Sl1Cur) : Sl1Cur), y.2.2.2.2.2.1))
def spec_l21DrawSegs_11_b (n : Nat) {R : Type} (K : Ex → Sm.St T → Option R) (c : Int × Int × List SSeg × ByteArray × List (List ByteArray)) (x : Int × Sl1Cur × List ByteArray) (J : (Int × Sl1Cur × List ByteArray) → Option R) : Option R :=
  spec_l21DrawSegs_L11 n (fun (y2 : Sl1Cur) (y6 : List ByteArray) => K (.exit 4) (stOf (T := T) [0, 3, 4, 5, 6, 7] [4503599627370496, 3000000, 40, 3000001, 3000002] [.one (.ptr 4503599627370496 0 0), .one (.own 3000000 100 false), .one (.int .i64), .one (.ptr 40 0 0), .one (.int .i64), .one (.own 3000002 9 false)] [.var [.arr 5, .int .i64, .int .i64], .arr 100 false, .var [.str, .own 3000001 82 false], .arr 82 false, .arr 9 false] ((), (), c.1, (), c.2.1, (), ()) ((y2.b, y2.i, y2.h, ()), c.2.2.1, (c.2.2.2.1, (), ()), c.2.2.2.2, y6, ()))) (fun z0 z1 z2 => J (z0, z1, z2)) c.1 c.2.1 x.1 x.2.1 c.2.2.1 c.2.2.2.1 c.2.2.2.2 x.2.2
def spec_l21DrawSegs_11_sp (n : Nat) : LSpec T := mkSpec T ⟨[((.reg 3), 3000000, 100), ((.reg 7), 3000002, 9), ((.cell 40 1), 3000001, 82)], [0, 3, 4, 5, 6, 7, 8], [4503599627370496, 3000000, 40, 3000001, 3000002]⟩ spec_l21DrawSegs_11_sv spec_l21DrawSegs_11_so (Int × Int × List SSeg × ByteArray × List (List ByteArray)) (Int × Sl1Cur × List ByteArray) spec_l21DrawSegs_11_emb spec_l21DrawSegs_11_prj (spec_l21DrawSegs_11_b n)
noncomputable def spec_l21DrawSegs_11_c : Code := ((loopCodes spec_l21DrawSegs_code)[2]?).getD .skip
def spec_l21DrawSegs_22_sv : List Sv := [.one (.own 3000000 100 false), .one (.int .i64)]
def spec_l21DrawSegs_22_so : List So := [.arr 100 false, .var [.arr 5, .int .i64, .int .i64]]
def spec_l21DrawSegs_22_emb (c : Sl1Cur) (x : Int × List SSeg) : EVs T spec_l21DrawSegs_22_sv × EOs T spec_l21DrawSegs_22_so := (((), x.1, ()), (x.2, (c.b, c.i, c.h, ()), ()))
def spec_l21DrawSegs_22_prj (y : EVs T spec_l21DrawSegs_22_sv × EOs T spec_l21DrawSegs_22_so) : Sl1Cur × (Int × List SSeg) := ((((⟨y.2.2.1.1, y.2.2.1.2.1, y.2.2.1.2.2.1⟩ : Sl1Cur) : Sl1Cur)), (y.1.2.1, y.2.1))
def spec_l21DrawSegs_22_b (n : Nat) {R : Type} (K : Ex → Sm.St T → Option R) (c : Sl1Cur) (x : Int × List SSeg) (J : (Int × List SSeg) → Option R) : Option R :=
  spec_l21DrawSegs_L22 n (fun (y0 : List SSeg) => K (.exit 7) (stOf (T := T) [3] [3000000, 4503599627370496] [.one (.own 3000000 100 false)] [.arr 100 false, .var [.arr 5, .int .i64, .int .i64]] ((), ()) (y0, (c.b, c.i, c.h, ()), ()))) (fun z0 z1 => J (z0, z1)) x.1 x.2 c
def spec_l21DrawSegs_22_sp (n : Nat) : LSpec T := mkSpec T ⟨[((.reg 3), 3000000, 100)], [3, 9], [3000000, 4503599627370496]⟩ spec_l21DrawSegs_22_sv spec_l21DrawSegs_22_so (Sl1Cur) (Int × List SSeg) spec_l21DrawSegs_22_emb spec_l21DrawSegs_22_prj (spec_l21DrawSegs_22_b n)
noncomputable def spec_l21DrawSegs_22_c : Code := ((loopCodes spec_l21DrawSegs_code)[3]?).getD .skip
def spec_l21DrawSegs_32_sv : List Sv := [.one (.own 3000003 100 false), .one (.int .i64)]
def spec_l21DrawSegs_32_so : List So := [.arr 100 false, .var [.arr 5, .int .i64, .int .i64]]
def spec_l21DrawSegs_32_emb (c : Sl1Cur) (x : Int × List SSeg) : EVs T spec_l21DrawSegs_32_sv × EOs T spec_l21DrawSegs_32_so := (((), x.1, ()), (x.2, (c.b, c.i, c.h, ()), ()))
def spec_l21DrawSegs_32_prj (y : EVs T spec_l21DrawSegs_32_sv × EOs T spec_l21DrawSegs_32_so) : Sl1Cur × (Int × List SSeg) := ((((⟨y.2.2.1.1, y.2.2.1.2.1, y.2.2.1.2.2.1⟩ : Sl1Cur) : Sl1Cur)), (y.1.2.1, y.2.1))
def spec_l21DrawSegs_32_b (n : Nat) {R : Type} (K : Ex → Sm.St T → Option R) (c : Sl1Cur) (x : Int × List SSeg) (J : (Int × List SSeg) → Option R) : Option R :=
  spec_l21DrawSegs_L32 n (fun (y0 : List SSeg) => K (.exit 9) (stOf (T := T) [3] [3000000, 4503599627370496] [.one (.own 3000000 100 false)] [.arr 100 false, .var [.arr 5, .int .i64, .int .i64]] ((), ()) (y0, (c.b, c.i, c.h, ()), ()))) (fun z0 z1 => J (z0, z1)) x.1 x.2 c
def spec_l21DrawSegs_32_sp (n : Nat) : LSpec T := mkSpec T ⟨[((.reg 3), 3000003, 100)], [3, 10], [3000003, 4503599627370496]⟩ spec_l21DrawSegs_32_sv spec_l21DrawSegs_32_so (Sl1Cur) (Int × List SSeg) spec_l21DrawSegs_32_emb spec_l21DrawSegs_32_prj (spec_l21DrawSegs_32_b n)
noncomputable def spec_l21DrawSegs_32_c : Code := ((loopCodes spec_l21DrawSegs_code)[4]?).getD .skip
def spec_l21DrawSegs_38_sv : List Sv := [.one (.ptr 4503599627370496 0 0), .one (.own 3000003 100 false), .one (.int .i64)]
def spec_l21DrawSegs_38_so : List So := [.var [.arr 5, .int .i64, .int .i64], .arr 100 false]
def spec_l21DrawSegs_38_emb (c : Sl1Cur) (x : Int × List SSeg) : EVs T spec_l21DrawSegs_38_sv × EOs T spec_l21DrawSegs_38_so := (((), (), x.1, ()), ((c.b, c.i, c.h, ()), x.2, ()))
def spec_l21DrawSegs_38_prj (y : EVs T spec_l21DrawSegs_38_sv × EOs T spec_l21DrawSegs_38_so) : Sl1Cur × (Int × List SSeg) := ((((⟨y.2.1.1, y.2.1.2.1, y.2.1.2.2.1⟩ : Sl1Cur) : Sl1Cur)), (y.1.2.2.1, y.2.2.1))
def spec_l21DrawSegs_38_b (n : Nat) {R : Type} (K : Ex → Sm.St T → Option R) (c : Sl1Cur) (x : Int × List SSeg) (J : (Int × List SSeg) → Option R) : Option R :=
  spec_l21DrawSegs_L38 n (fun (y1 : List SSeg) => K (.exit 11) (stOf (T := T) [0, 3] [4503599627370496, 3000000] [.one (.ptr 4503599627370496 0 0), .one (.own 3000000 100 false)] [.var [.arr 5, .int .i64, .int .i64], .arr 100 false] ((), (), ()) ((c.b, c.i, c.h, ()), y1, ()))) (fun z0 z1 => J (z0, z1)) x.1 c x.2
def spec_l21DrawSegs_38_sp (n : Nat) : LSpec T := mkSpec T ⟨[((.reg 3), 3000003, 100)], [0, 3, 11], [4503599627370496, 3000003]⟩ spec_l21DrawSegs_38_sv spec_l21DrawSegs_38_so (Sl1Cur) (Int × List SSeg) spec_l21DrawSegs_38_emb spec_l21DrawSegs_38_prj (spec_l21DrawSegs_38_b n)
noncomputable def spec_l21DrawSegs_38_c : Code := ((loopCodes spec_l21DrawSegs_code)[5]?).getD .skip
def spec_l21DrawSegs_42_sv : List Sv := [.one (.ptr 4503599627370496 0 0), .one (.own 3000000 100 false), .one (.int .i64), .one (.ptr 96 0 0), .one (.int .i64)]
def spec_l21DrawSegs_42_so : List So := [.var [.arr 5, .int .i64, .int .i64], .arr 100 false, .var [.str, .own 3000004 82 false], .arr 82 false]
def spec_l21DrawSegs_42_emb (c : Int × Sl1Cur × List SSeg × ByteArray) (x : Int × List (List ByteArray)) : EVs T spec_l21DrawSegs_42_sv × EOs T spec_l21DrawSegs_42_so := (((), (), c.1, (), x.1, ()), ((c.2.1.b, c.2.1.i, c.2.1.h, ()), c.2.2.1, (c.2.2.2, (), ()), x.2, ()))
def spec_l21DrawSegs_42_prj (y : EVs T spec_l21DrawSegs_42_sv × EOs T spec_l21DrawSegs_42_so) : (Int × Sl1Cur × List SSeg × ByteArray) × (Int × List (List ByteArray)) := ((y.1.2.2.1, ((⟨y.2.1.1, y.2.1.2.1, y.2.1.2.2.1⟩ : Sl1Cur) : Sl1Cur), y.2.2.1, y.2.2.2.1.1), (y.1.2.2.2.2.1, y.2.2.2.2.1))
def spec_l21DrawSegs_42_b (n : Nat) {R : Type} (K : Ex → Sm.St T → Option R) (c : Int × Sl1Cur × List SSeg × ByteArray) (x : Int × List (List ByteArray)) (J : (Int × List (List ByteArray)) → Option R) : Option R :=
  spec_l21DrawSegs_L42 n (fun (y4 : List (List ByteArray)) => K (.exit 13) (stOf (T := T) [0, 3, 11, 12] [4503599627370496, 3000000, 96, 3000004] [.one (.ptr 4503599627370496 0 0), .one (.own 3000000 100 false), .one (.int .i64), .one (.ptr 96 0 0)] [.var [.arr 5, .int .i64, .int .i64], .arr 100 false, .var [.str, .own 3000004 82 false], .arr 82 false] ((), (), c.1, (), ()) ((c.2.1.b, c.2.1.i, c.2.1.h, ()), c.2.2.1, (c.2.2.2, (), ()), y4, ()))) (fun z0 z1 => J (z0, z1)) c.1 x.1 c.2.1 c.2.2.1 c.2.2.2 x.2
def spec_l21DrawSegs_42_sp (n : Nat) : LSpec T := mkSpec T ⟨[((.reg 3), 3000000, 100), ((.cell 96 1), 3000004, 82)], [0, 3, 11, 12, 13], [4503599627370496, 3000000, 96, 3000004]⟩ spec_l21DrawSegs_42_sv spec_l21DrawSegs_42_so (Int × Sl1Cur × List SSeg × ByteArray) (Int × List (List ByteArray)) spec_l21DrawSegs_42_emb spec_l21DrawSegs_42_prj (spec_l21DrawSegs_42_b n)
noncomputable def spec_l21DrawSegs_42_c : Code := ((loopCodes spec_l21DrawSegs_code)[6]?).getD .skip
def spec_l21DrawSegs_ann : Ann := fun id => bif Nat.beq id 3000003 then some ⟨[((.reg 3), 3000000, 100)], [0, 3], [4503599627370496, 3000000]⟩ else bif Nat.beq id 5000007 then some ⟨[((.reg 3), 3000000, 100), ((.cell 40 1), 3000001, 82)], [0, 3, 4, 5], [4503599627370496, 3000000, 40, 3000001]⟩ else bif Nat.beq id 7000011 then some ⟨[((.reg 3), 3000000, 100), ((.reg 7), 3000002, 9), ((.cell 40 1), 3000001, 82)], [0, 3, 4, 5, 6, 7], [4503599627370496, 3000000, 40, 3000001, 3000002]⟩ else bif Nat.beq id 10000022 then some ⟨[((.reg 3), 3000000, 100)], [3], [3000000, 4503599627370496]⟩ else bif Nat.beq id 12000032 then some ⟨[((.reg 3), 3000000, 100)], [3], [3000000, 4503599627370496]⟩ else bif Nat.beq id 14000038 then some ⟨[((.reg 3), 3000000, 100)], [0, 3], [4503599627370496, 3000000]⟩ else bif Nat.beq id 16000042 then some ⟨[((.reg 3), 3000000, 100), ((.cell 96 1), 3000004, 82)], [0, 3, 11, 12], [4503599627370496, 3000000, 96, 3000004]⟩ else none
def spec_l21DrawSegs_Ls (n : Nat) : Nat → Option (LSpec T) := fun id => bif Nat.beq id 3 then some (spec_l21DrawSegs_3_sp n) else bif Nat.beq id 7 then some (spec_l21DrawSegs_7_sp n) else bif Nat.beq id 11 then some (spec_l21DrawSegs_11_sp n) else bif Nat.beq id 22 then some (spec_l21DrawSegs_22_sp n) else bif Nat.beq id 32 then some (spec_l21DrawSegs_32_sp n) else bif Nat.beq id 38 then some (spec_l21DrawSegs_38_sp n) else bif Nat.beq id 42 then some (spec_l21DrawSegs_42_sp n) else none
theorem spec_l21DrawSegs_3_le (n : Nat) : LoopEq (T := T) (Phi n 8) (spec_l21DrawSegs_Ls n) spec_l21DrawSegs_ann n spec_l21DrawSegs_3_c (spec_l21DrawSegs_3_sp n) := ⟨mkSpec_dec (fun y => rfl), fun c x => by kernel_rfl, fun K J c x => by kernel_rfl⟩
theorem spec_l21DrawSegs_7_le (n : Nat) : LoopEq (T := T) (Phi n 8) (spec_l21DrawSegs_Ls n) spec_l21DrawSegs_ann n spec_l21DrawSegs_7_c (spec_l21DrawSegs_7_sp n) := ⟨mkSpec_dec (fun y => rfl), fun c x => by kernel_rfl, fun K J c x => by kernel_rfl⟩
theorem spec_l21DrawSegs_11_le (n : Nat) : LoopEq (T := T) (Phi n 8) (spec_l21DrawSegs_Ls n) spec_l21DrawSegs_ann n spec_l21DrawSegs_11_c (spec_l21DrawSegs_11_sp n) := ⟨mkSpec_dec (fun y => rfl), fun c x => by kernel_rfl, fun K J c x => by kernel_rfl⟩
theorem spec_l21DrawSegs_22_le (n : Nat) : LoopEq (T := T) (Phi n 8) (spec_l21DrawSegs_Ls n) spec_l21DrawSegs_ann n spec_l21DrawSegs_22_c (spec_l21DrawSegs_22_sp n) := ⟨mkSpec_dec (fun y => rfl), fun c x => by kernel_rfl, fun K J c x => by kernel_rfl⟩
theorem spec_l21DrawSegs_32_le (n : Nat) : LoopEq (T := T) (Phi n 8) (spec_l21DrawSegs_Ls n) spec_l21DrawSegs_ann n spec_l21DrawSegs_32_c (spec_l21DrawSegs_32_sp n) := ⟨mkSpec_dec (fun y => rfl), fun c x => by kernel_rfl, fun K J c x => by kernel_rfl⟩
theorem spec_l21DrawSegs_38_le (n : Nat) : LoopEq (T := T) (Phi n 8) (spec_l21DrawSegs_Ls n) spec_l21DrawSegs_ann n spec_l21DrawSegs_38_c (spec_l21DrawSegs_38_sp n) := ⟨mkSpec_dec (fun y => rfl), fun c x => by kernel_rfl, fun K J c x => by kernel_rfl⟩
theorem spec_l21DrawSegs_42_le (n : Nat) : LoopEq (T := T) (Phi n 8) (spec_l21DrawSegs_Ls n) spec_l21DrawSegs_ann n spec_l21DrawSegs_42_c (spec_l21DrawSegs_42_sp n) := ⟨mkSpec_dec (fun y => rfl), fun c x => by kernel_rfl, fun K J c x => by kernel_rfl⟩
theorem spec_l21DrawSegs_tie (n : Nat) (c0 : Sl1Cur) : evF (T := T) (Phi n 8) (spec_l21DrawSegs_Ls n) spec_l21DrawSegs_ann n Try.f148 (sg 148) [.ptr 184 c0] spec_l21DrawSegs_dec = spec_l21DrawSegs n c0 := by kernel_rfl
theorem spec_l21DrawSegs_lo (n : Nat) : LoopsOk (T := T) (Phi n 8) (spec_l21DrawSegs_Ls n) spec_l21DrawSegs_ann n spec_l21DrawSegs_code := loopsOk_all (cs := [spec_l21DrawSegs_3_c, spec_l21DrawSegs_7_c, spec_l21DrawSegs_11_c, spec_l21DrawSegs_22_c, spec_l21DrawSegs_32_c, spec_l21DrawSegs_38_c, spec_l21DrawSegs_42_c]) (by kernel_rfl) ⟨⟨_, by kernel_rfl, spec_l21DrawSegs_3_le n⟩, ⟨_, by kernel_rfl, spec_l21DrawSegs_7_le n⟩, ⟨_, by kernel_rfl, spec_l21DrawSegs_11_le n⟩, ⟨_, by kernel_rfl, spec_l21DrawSegs_22_le n⟩, ⟨_, by kernel_rfl, spec_l21DrawSegs_32_le n⟩, ⟨_, by kernel_rfl, spec_l21DrawSegs_38_le n⟩, ⟨_, by kernel_rfl, spec_l21DrawSegs_42_le n⟩, trivial⟩
theorem spec_l21DrawSegs_ok (n : Nat) : EntOk Try.prog (ents n) (spec_l21DrawSegs_ent n) := by
  intro hs ar y hg h
  replace h : spec_l21DrawSegs_D n ar = some y := h
  unfold spec_l21DrawSegs_D at h
  replace h := ocons_some h
  obtain ⟨a0, r0, rfl, h⟩ := h
  replace h := onil_some h
  obtain ⟨rfl, h⟩ := h
  obtain ⟨c0, qh0, h⟩ := obind_some h
  rw [argP_eq qh0]
  exact call_of (phiE_nat _ _) hs ok mixed Try.func148 (c := spec_l21DrawSegs_code) (by kernel_rfl) (spec_l21DrawSegs_lo n) (by kernel_rfl) (by kernel_rfl) (by kernel_rfl) spec_l21DrawSegs_de ((spec_l21DrawSegs_tie n c0).trans h)
noncomputable def spec_DrawWriteSegs_code : Code := match Try.f58.body with | some c => c | none => .skip
def spec_DrawWriteSegs_ann : Ann := fun id => none
def spec_DrawWriteSegs_Ls (n : Nat) : Nat → Option (LSpec T) := fun id => none
theorem spec_DrawWriteSegs_tie (n : Nat) (code0 : List Int) : evF (T := T) (Phi n 9) (spec_DrawWriteSegs_Ls n) spec_DrawWriteSegs_ann n Try.f58 (sg 58) [vA T 34 code0] spec_DrawWriteSegs_dec = spec_DrawWriteSegs n code0 := by kernel_rfl
theorem spec_DrawWriteSegs_lo (n : Nat) : LoopsOk (T := T) (Phi n 9) (spec_DrawWriteSegs_Ls n) spec_DrawWriteSegs_ann n spec_DrawWriteSegs_code := loopsOk_all (cs := []) (by kernel_rfl) trivial
theorem spec_DrawWriteSegs_ok (n : Nat) : EntOk Try.prog (ents n) (spec_DrawWriteSegs_ent n) := by
  intro hs ar y hg h
  replace h : spec_DrawWriteSegs_D n ar = some y := h
  unfold spec_DrawWriteSegs_D at h
  replace h := ocons_some h
  obtain ⟨a0, r0, rfl, h⟩ := h
  replace h := onil_some h
  obtain ⟨rfl, h⟩ := h
  obtain ⟨code0, qh0, h⟩ := obind_some h
  rw [argV_eq ok qh0]
  exact call_of (phiE_nat _ _) hs ok mixed Try.func58 (c := spec_DrawWriteSegs_code) (by kernel_rfl) (spec_DrawWriteSegs_lo n) (by kernel_rfl) (by kernel_rfl) (by kernel_rfl) spec_DrawWriteSegs_de ((spec_DrawWriteSegs_tie n code0).trans h)
noncomputable def impl_capital_code : Code := match Try.f137.body with | some c => c | none => .skip
def impl_capital_ann : Ann := fun id => none
def impl_capital_Ls (n : Nat) : Nat → Option (LSpec T) := fun id => none
theorem impl_capital_tie (n : Nat) (c0 : Int) : evF (T := T) (Phi n 10) (impl_capital_Ls n) impl_capital_ann n Try.f137 (sg 137) [vA T 5 c0] impl_capital_dec = impl_capital n c0 := by kernel_rfl
theorem impl_capital_lo (n : Nat) : LoopsOk (T := T) (Phi n 10) (impl_capital_Ls n) impl_capital_ann n impl_capital_code := loopsOk_all (cs := []) (by kernel_rfl) trivial
theorem impl_capital_ok (n : Nat) : EntOk Try.prog (ents n) (impl_capital_ent n) := by
  intro hs ar y hg h
  replace h : impl_capital_D n ar = some y := h
  unfold impl_capital_D at h
  replace h := ocons_some h
  obtain ⟨a0, r0, rfl, h⟩ := h
  replace h := onil_some h
  obtain ⟨rfl, h⟩ := h
  obtain ⟨c0, qh0, h⟩ := obind_some h
  rw [argV_eq ok qh0]
  exact call_of (phiE_nat _ _) hs ok mixed Try.func137 (c := impl_capital_code) (by kernel_rfl) (impl_capital_lo n) (by kernel_rfl) (by kernel_rfl) (by kernel_rfl) impl_capital_de ((impl_capital_tie n c0).trans h)
noncomputable def impl_in_code : Code := match Try.f87.body with | some c => c | none => .skip
def impl_in_ann : Ann := fun id => none
def impl_in_Ls (n : Nat) : Nat → Option (LSpec T) := fun id => none
theorem impl_in_tie (n : Nat) (n0 : Int) (least1 : Int) (most2 : Int) : evF (T := T) (Phi n 11) (impl_in_Ls n) impl_in_ann n Try.f87 (sg 87) [vA T 3 n0, vA T 3 least1, vA T 3 most2] impl_in_dec = impl_in n n0 least1 most2 := by kernel_rfl
theorem impl_in_lo (n : Nat) : LoopsOk (T := T) (Phi n 11) (impl_in_Ls n) impl_in_ann n impl_in_code := loopsOk_all (cs := []) (by kernel_rfl) trivial
theorem impl_in_ok (n : Nat) : EntOk Try.prog (ents n) (impl_in_ent n) := by
  intro hs ar y hg h
  replace h : impl_in_D n ar = some y := h
  unfold impl_in_D at h
  replace h := ocons_some h
  obtain ⟨a0, r0, rfl, h⟩ := h
  replace h := ocons_some h
  obtain ⟨a1, r1, rfl, h⟩ := h
  replace h := ocons_some h
  obtain ⟨a2, r2, rfl, h⟩ := h
  replace h := onil_some h
  obtain ⟨rfl, h⟩ := h
  obtain ⟨n0, qh0, h⟩ := obind_some h
  obtain ⟨least1, qh1, h⟩ := obind_some h
  obtain ⟨most2, qh2, h⟩ := obind_some h
  rw [argV_eq ok qh0, argV_eq ok qh1, argV_eq ok qh2]
  exact call_of (phiE_nat _ _) hs ok mixed Try.func87 (c := impl_in_code) (by kernel_rfl) (impl_in_lo n) (by kernel_rfl) (by kernel_rfl) (by kernel_rfl) impl_in_de ((impl_in_tie n n0 least1 most2).trans h)
noncomputable def impl_plain_code : Code := match Try.f139.body with | some c => c | none => .skip
def impl_plain_ann : Ann := fun id => none
def impl_plain_Ls (n : Nat) : Nat → Option (LSpec T) := fun id => none
theorem impl_plain_tie (n : Nat) (c0 : Int) : evF (T := T) (Phi n 12) (impl_plain_Ls n) impl_plain_ann n Try.f139 (sg 139) [vA T 5 c0] impl_plain_dec = impl_plain n c0 := by kernel_rfl
theorem impl_plain_lo (n : Nat) : LoopsOk (T := T) (Phi n 12) (impl_plain_Ls n) impl_plain_ann n impl_plain_code := loopsOk_all (cs := []) (by kernel_rfl) trivial
theorem impl_plain_ok (n : Nat) : EntOk Try.prog (ents n) (impl_plain_ent n) := by
  intro hs ar y hg h
  replace h : impl_plain_D n ar = some y := h
  unfold impl_plain_D at h
  replace h := ocons_some h
  obtain ⟨a0, r0, rfl, h⟩ := h
  replace h := onil_some h
  obtain ⟨rfl, h⟩ := h
  obtain ⟨c0, qh0, h⟩ := obind_some h
  rw [argV_eq ok qh0]
  exact call_of (phiE_nat _ _) hs ok mixed Try.func139 (c := impl_plain_code) (by kernel_rfl) (impl_plain_lo n) (by kernel_rfl) (by kernel_rfl) (by kernel_rfl) impl_plain_de ((impl_plain_tie n c0).trans h)
noncomputable def impl_ediText_code : Code := match Try.f198.body with | some c => c | none => .skip
def impl_ediText_4_sv : List Sv := [.one (.str), .one (.int .i64), .one (.int .i64)]
def impl_ediText_4_so : List So := []
def impl_ediText_4_emb (c : ByteArray × Int) (x : Int) : EVs T impl_ediText_4_sv × EOs T impl_ediText_4_so := ((c.1, c.2, x, ()), ())
def impl_ediText_4_prj (y : EVs T impl_ediText_4_sv × EOs T impl_ediText_4_so) : (ByteArray × Int) × Int := ((y.1.1, y.1.2.1), (y.1.2.2.1))
def impl_ediText_4_b (n : Nat) {R : Type} (K : Ex → Sm.St T → Option R) (c : ByteArray × Int) (x : Int) (J : Int → Option R) : Option R :=
  impl_ediText_L4 n (K (.exit 0) (stOf (T := T) [] [] [] [] () ())) (fun (y0 : Bool) => K .ret (stOf (T := T) [2] [] [.one (.bool)] [] (y0, ()) ())) J c.1 c.2 x
def impl_ediText_4_sp (n : Nat) : LSpec T := mkSpec T ⟨[], [0, 8, 9], []⟩ impl_ediText_4_sv impl_ediText_4_so (ByteArray × Int) (Int) impl_ediText_4_emb impl_ediText_4_prj (impl_ediText_4_b n)
noncomputable def impl_ediText_4_c : Code := ((loopCodes impl_ediText_code)[0]?).getD .skip
def impl_ediText_ann : Ann := fun id => bif Nat.beq id 3000004 then some ⟨[], [], []⟩ else bif Nat.beq id 2000004 then some ⟨[], [2], []⟩ else none
def impl_ediText_Ls (n : Nat) : Nat → Option (LSpec T) := fun id => bif Nat.beq id 4 then some (impl_ediText_4_sp n) else none
theorem impl_ediText_4_le (n : Nat) : LoopEq (T := T) (Phi n 13) (impl_ediText_Ls n) impl_ediText_ann n impl_ediText_4_c (impl_ediText_4_sp n) := ⟨mkSpec_dec (fun y => rfl), fun c x => by kernel_rfl, fun K J c x => by kernel_rfl⟩
theorem impl_ediText_tie (n : Nat) (s0 : ByteArray) : evF (T := T) (Phi n 13) (impl_ediText_Ls n) impl_ediText_ann n Try.f198 (sg 198) [vA T 9 s0] impl_ediText_dec = impl_ediText n s0 := by kernel_rfl
theorem impl_ediText_lo (n : Nat) : LoopsOk (T := T) (Phi n 13) (impl_ediText_Ls n) impl_ediText_ann n impl_ediText_code := loopsOk_all (cs := [impl_ediText_4_c]) (by kernel_rfl) ⟨⟨_, by kernel_rfl, impl_ediText_4_le n⟩, trivial⟩
theorem impl_ediText_ok (n : Nat) : EntOk Try.prog (ents n) (impl_ediText_ent n) := by
  intro hs ar y hg h
  replace h : impl_ediText_D n ar = some y := h
  unfold impl_ediText_D at h
  replace h := ocons_some h
  obtain ⟨a0, r0, rfl, h⟩ := h
  replace h := onil_some h
  obtain ⟨rfl, h⟩ := h
  obtain ⟨s0, qh0, h⟩ := obind_some h
  rw [argV_eq ok qh0]
  exact call_of (phiE_nat _ _) hs ok mixed Try.func198 (c := impl_ediText_code) (by kernel_rfl) (impl_ediText_lo n) (by kernel_rfl) (by kernel_rfl) (by kernel_rfl) impl_ediText_de ((impl_ediText_tie n s0).trans h)
noncomputable def impl_segRight_1_code : Code := match Try.f197.body with | some c => c | none => .skip
def impl_segRight_1_ann : Ann := fun id => none
def impl_segRight_1_Ls (n : Nat) : Nat → Option (LSpec T) := fun id => none
theorem impl_segRight_1_tie (n : Nat) (t0 : ByteArray) : evF (T := T) (Phi n 14) (impl_segRight_1_Ls n) impl_segRight_1_ann n Try.f197 (sg 197) [vA T 9 t0] impl_segRight_1_dec = impl_segRight_1 n t0 := by kernel_rfl
theorem impl_segRight_1_lo (n : Nat) : LoopsOk (T := T) (Phi n 14) (impl_segRight_1_Ls n) impl_segRight_1_ann n impl_segRight_1_code := loopsOk_all (cs := []) (by kernel_rfl) trivial
theorem impl_segRight_1_ok (n : Nat) : EntOk Try.prog (ents n) (impl_segRight_1_ent n) := by
  intro hs ar y hg h
  replace h : impl_segRight_1_D n ar = some y := h
  unfold impl_segRight_1_D at h
  replace h := ocons_some h
  obtain ⟨a0, r0, rfl, h⟩ := h
  replace h := onil_some h
  obtain ⟨rfl, h⟩ := h
  obtain ⟨t0, qh0, h⟩ := obind_some h
  rw [argV_eq ok qh0]
  exact call_of (phiE_nat _ _) hs ok mixed Try.func197 (c := impl_segRight_1_code) (by kernel_rfl) (impl_segRight_1_lo n) (by kernel_rfl) (by kernel_rfl) (by kernel_rfl) impl_segRight_1_de ((impl_segRight_1_tie n t0).trans h)
noncomputable def slices_IndexFunc_string_string__impl_segRight_1_code : Code := match Try.f183.body with | some c => c | none => .skip
def slices_IndexFunc_string_string__impl_segRight_1_2_sv : List Sv := [.one (.arr 9), .one (.fn 197 []), .one (.int .i64), .one (.int .i64)]
def slices_IndexFunc_string_string__impl_segRight_1_2_so : List So := []
def slices_IndexFunc_string_string__impl_segRight_1_2_emb (c : List ByteArray × Int) (x : Int) : EVs T slices_IndexFunc_string_string__impl_segRight_1_2_sv × EOs T slices_IndexFunc_string_string__impl_segRight_1_2_so := ((c.1, (), c.2, x, ()), ())
def slices_IndexFunc_string_string__impl_segRight_1_2_prj (y : EVs T slices_IndexFunc_string_string__impl_segRight_1_2_sv × EOs T slices_IndexFunc_string_string__impl_segRight_1_2_so) : (List ByteArray × Int) × Int := ((y.1.1, y.1.2.2.1), (y.1.2.2.2.1))
def slices_IndexFunc_string_string__impl_segRight_1_2_b (n : Nat) {R : Type} (K : Ex → Sm.St T → Option R) (c : List ByteArray × Int) (x : Int) (J : Int → Option R) : Option R :=
  slices_IndexFunc_string_string__impl_segRight_1_L2 n (K (.exit 0) (stOf (T := T) [] [] [] [] () ())) (fun (y0 : Int) => K .ret (stOf (T := T) [4] [] [.one (.int .i64)] [] (y0, ()) ())) J c.1 c.2 x
def slices_IndexFunc_string_string__impl_segRight_1_2_sp (n : Nat) : LSpec T := mkSpec T ⟨[], [0, 1, 7, 8], []⟩ slices_IndexFunc_string_string__impl_segRight_1_2_sv slices_IndexFunc_string_string__impl_segRight_1_2_so (List ByteArray × Int) (Int) slices_IndexFunc_string_string__impl_segRight_1_2_emb slices_IndexFunc_string_string__impl_segRight_1_2_prj (slices_IndexFunc_string_string__impl_segRight_1_2_b n)
noncomputable def slices_IndexFunc_string_string__impl_segRight_1_2_c : Code := ((loopCodes slices_IndexFunc_string_string__impl_segRight_1_code)[0]?).getD .skip
def slices_IndexFunc_string_string__impl_segRight_1_ann : Ann := fun id => bif Nat.beq id 3000002 then some ⟨[], [], []⟩ else bif Nat.beq id 2000002 then some ⟨[], [4], []⟩ else none
def slices_IndexFunc_string_string__impl_segRight_1_Ls (n : Nat) : Nat → Option (LSpec T) := fun id => bif Nat.beq id 2 then some (slices_IndexFunc_string_string__impl_segRight_1_2_sp n) else none
theorem slices_IndexFunc_string_string__impl_segRight_1_2_le (n : Nat) : LoopEq (T := T) (Phi n 15) (slices_IndexFunc_string_string__impl_segRight_1_Ls n) slices_IndexFunc_string_string__impl_segRight_1_ann n slices_IndexFunc_string_string__impl_segRight_1_2_c (slices_IndexFunc_string_string__impl_segRight_1_2_sp n) := ⟨mkSpec_dec (fun y => rfl), fun c x => by kernel_rfl, fun K J c x => by kernel_rfl⟩
theorem slices_IndexFunc_string_string__impl_segRight_1_tie (n : Nat) (s0 : List ByteArray) : evF (T := T) (Phi n 15) (slices_IndexFunc_string_string__impl_segRight_1_Ls n) slices_IndexFunc_string_string__impl_segRight_1_ann n Try.f183 (sg 183) [vA T 82 s0, .fn 197 []] slices_IndexFunc_string_string__impl_segRight_1_dec = slices_IndexFunc_string_string__impl_segRight_1 n s0 := by kernel_rfl
theorem slices_IndexFunc_string_string__impl_segRight_1_lo (n : Nat) : LoopsOk (T := T) (Phi n 15) (slices_IndexFunc_string_string__impl_segRight_1_Ls n) slices_IndexFunc_string_string__impl_segRight_1_ann n slices_IndexFunc_string_string__impl_segRight_1_code := loopsOk_all (cs := [slices_IndexFunc_string_string__impl_segRight_1_2_c]) (by kernel_rfl) ⟨⟨_, by kernel_rfl, slices_IndexFunc_string_string__impl_segRight_1_2_le n⟩, trivial⟩
theorem slices_IndexFunc_string_string__impl_segRight_1_ok (n : Nat) : EntOk Try.prog (ents n) (slices_IndexFunc_string_string__impl_segRight_1_ent n) := by
  intro hs ar y hg h
  replace h : slices_IndexFunc_string_string__impl_segRight_1_D n ar = some y := h
  unfold slices_IndexFunc_string_string__impl_segRight_1_D at h
  split at h
  · obtain ⟨s0, qh0, h⟩ := obind_some h
    rw [argV_eq ok qh0] at hg ⊢
    cases (show [_] = [197] from natsEq_eq hg)
    exact call_of (phiE_nat _ _) hs ok mixed Try.func183 (c := slices_IndexFunc_string_string__impl_segRight_1_code) (by kernel_rfl) (slices_IndexFunc_string_string__impl_segRight_1_lo n) (by kernel_rfl) (by kernel_rfl) (by kernel_rfl) slices_IndexFunc_string_string__impl_segRight_1_de ((slices_IndexFunc_string_string__impl_segRight_1_tie n s0).trans h)
  · cases h
noncomputable def slices_ContainsFunc_string_string__impl_segRight_1_code : Code := match Try.f125.body with | some c => c | none => .skip
def slices_ContainsFunc_string_string__impl_segRight_1_ann : Ann := fun id => none
def slices_ContainsFunc_string_string__impl_segRight_1_Ls (n : Nat) : Nat → Option (LSpec T) := fun id => none
theorem slices_ContainsFunc_string_string__impl_segRight_1_tie (n : Nat) (s0 : List ByteArray) : evF (T := T) (Phi n 16) (slices_ContainsFunc_string_string__impl_segRight_1_Ls n) slices_ContainsFunc_string_string__impl_segRight_1_ann n Try.f125 (sg 125) [vA T 82 s0, .fn 197 []] slices_ContainsFunc_string_string__impl_segRight_1_dec = slices_ContainsFunc_string_string__impl_segRight_1 n s0 := by kernel_rfl
theorem slices_ContainsFunc_string_string__impl_segRight_1_lo (n : Nat) : LoopsOk (T := T) (Phi n 16) (slices_ContainsFunc_string_string__impl_segRight_1_Ls n) slices_ContainsFunc_string_string__impl_segRight_1_ann n slices_ContainsFunc_string_string__impl_segRight_1_code := loopsOk_all (cs := []) (by kernel_rfl) trivial
theorem slices_ContainsFunc_string_string__impl_segRight_1_ok (n : Nat) : EntOk Try.prog (ents n) (slices_ContainsFunc_string_string__impl_segRight_1_ent n) := by
  intro hs ar y hg h
  replace h : slices_ContainsFunc_string_string__impl_segRight_1_D n ar = some y := h
  unfold slices_ContainsFunc_string_string__impl_segRight_1_D at h
  split at h
  · obtain ⟨s0, qh0, h⟩ := obind_some h
    rw [argV_eq ok qh0] at hg ⊢
    cases (show [_] = [197] from natsEq_eq hg)
    exact call_of (phiE_nat _ _) hs ok mixed Try.func125 (c := slices_ContainsFunc_string_string__impl_segRight_1_code) (by kernel_rfl) (slices_ContainsFunc_string_string__impl_segRight_1_lo n) (by kernel_rfl) (by kernel_rfl) (by kernel_rfl) slices_ContainsFunc_string_string__impl_segRight_1_de ((slices_ContainsFunc_string_string__impl_segRight_1_tie n s0).trans h)
  · cases h
noncomputable def impl_segRight_code : Code := match Try.f154.body with | some c => c | none => .skip
def impl_segRight_4_sv : List Sv := [.one (.arr 82), .one (.int .i64), .one (.int .i64)]
def impl_segRight_4_so : List So := []
def impl_segRight_4_emb (c : List (List ByteArray) × Int) (x : Int) : EVs T impl_segRight_4_sv × EOs T impl_segRight_4_so := ((c.1, c.2, x, ()), ())
def impl_segRight_4_prj (y : EVs T impl_segRight_4_sv × EOs T impl_segRight_4_so) : (List (List ByteArray) × Int) × Int := ((y.1.1, y.1.2.1), (y.1.2.2.1))
def impl_segRight_4_b (n : Nat) {R : Type} (K : Ex → Sm.St T → Option R) (c : List (List ByteArray) × Int) (x : Int) (J : Int → Option R) : Option R :=
  impl_segRight_L4 n (K (.exit 0) (stOf (T := T) [] [] [] [] () ())) (fun (y0 : Bool) => K .ret (stOf (T := T) [2] [] [.one (.bool)] [] (y0, ()) ())) J c.1 c.2 x
def impl_segRight_4_sp (n : Nat) : LSpec T := mkSpec T ⟨[], [37, 38, 39], []⟩ impl_segRight_4_sv impl_segRight_4_so (List (List ByteArray) × Int) (Int) impl_segRight_4_emb impl_segRight_4_prj (impl_segRight_4_b n)
noncomputable def impl_segRight_4_c : Code := ((loopCodes impl_segRight_code)[0]?).getD .skip
def impl_segRight_ann : Ann := fun id => bif Nat.beq id 3000004 then some ⟨[], [], []⟩ else bif Nat.beq id 2000004 then some ⟨[], [2], []⟩ else none
def impl_segRight_Ls (n : Nat) : Nat → Option (LSpec T) := fun id => bif Nat.beq id 4 then some (impl_segRight_4_sp n) else none
theorem impl_segRight_4_le (n : Nat) : LoopEq (T := T) (Phi n 17) (impl_segRight_Ls n) impl_segRight_ann n impl_segRight_4_c (impl_segRight_4_sp n) := ⟨mkSpec_dec (fun y => rfl), fun c x => by kernel_rfl, fun K J c x => by kernel_rfl⟩
theorem impl_segRight_tie (n : Nat) (s0 : SSeg) : evF (T := T) (Phi n 17) (impl_segRight_Ls n) impl_segRight_ann n Try.f154 (sg 154) [vA T 100 s0] impl_segRight_dec = impl_segRight n s0 := by kernel_rfl
theorem impl_segRight_lo (n : Nat) : LoopsOk (T := T) (Phi n 17) (impl_segRight_Ls n) impl_segRight_ann n impl_segRight_code := loopsOk_all (cs := [impl_segRight_4_c]) (by kernel_rfl) ⟨⟨_, by kernel_rfl, impl_segRight_4_le n⟩, trivial⟩
theorem impl_segRight_ok (n : Nat) : EntOk Try.prog (ents n) (impl_segRight_ent n) := by
  intro hs ar y hg h
  replace h : impl_segRight_D n ar = some y := h
  unfold impl_segRight_D at h
  replace h := ocons_some h
  obtain ⟨a0, r0, rfl, h⟩ := h
  replace h := onil_some h
  obtain ⟨rfl, h⟩ := h
  obtain ⟨s0, qh0, h⟩ := obind_some h
  rw [argV_eq ok qh0]
  exact call_of (phiE_nat _ _) hs ok mixed Try.func154 (c := impl_segRight_code) (by kernel_rfl) (impl_segRight_lo n) (by kernel_rfl) (by kernel_rfl) (by kernel_rfl) impl_segRight_de ((impl_segRight_tie n s0).trans h)
noncomputable def impl_SegsOk_1_code : Code := match Try.f153.body with | some c => c | none => .skip
def impl_SegsOk_1_ann : Ann := fun id => none
def impl_SegsOk_1_Ls (n : Nat) : Nat → Option (LSpec T) := fun id => none
theorem impl_SegsOk_1_tie (n : Nat) (s0 : SSeg) : evF (T := T) (Phi n 18) (impl_SegsOk_1_Ls n) impl_SegsOk_1_ann n Try.f153 (sg 153) [vA T 100 s0] impl_SegsOk_1_dec = impl_SegsOk_1 n s0 := by kernel_rfl
theorem impl_SegsOk_1_lo (n : Nat) : LoopsOk (T := T) (Phi n 18) (impl_SegsOk_1_Ls n) impl_SegsOk_1_ann n impl_SegsOk_1_code := loopsOk_all (cs := []) (by kernel_rfl) trivial
theorem impl_SegsOk_1_ok (n : Nat) : EntOk Try.prog (ents n) (impl_SegsOk_1_ent n) := by
  intro hs ar y hg h
  replace h : impl_SegsOk_1_D n ar = some y := h
  unfold impl_SegsOk_1_D at h
  replace h := ocons_some h
  obtain ⟨a0, r0, rfl, h⟩ := h
  replace h := onil_some h
  obtain ⟨rfl, h⟩ := h
  obtain ⟨s0, qh0, h⟩ := obind_some h
  rw [argV_eq ok qh0]
  exact call_of (phiE_nat _ _) hs ok mixed Try.func153 (c := impl_SegsOk_1_code) (by kernel_rfl) (impl_SegsOk_1_lo n) (by kernel_rfl) (by kernel_rfl) (by kernel_rfl) impl_SegsOk_1_de ((impl_SegsOk_1_tie n s0).trans h)
noncomputable def sIndex_SegsOk_1_code : Code := match Try.f196.body with | some c => c | none => .skip
def sIndex_SegsOk_1_2_sv : List Sv := [.one (.arr 100), .one (.fn 153 []), .one (.int .i64), .one (.int .i64)]
def sIndex_SegsOk_1_2_so : List So := []
def sIndex_SegsOk_1_2_emb (c : List SSeg × Int) (x : Int) : EVs T sIndex_SegsOk_1_2_sv × EOs T sIndex_SegsOk_1_2_so := ((c.1, (), c.2, x, ()), ())
def sIndex_SegsOk_1_2_prj (y : EVs T sIndex_SegsOk_1_2_sv × EOs T sIndex_SegsOk_1_2_so) : (List SSeg × Int) × Int := ((y.1.1, y.1.2.2.1), (y.1.2.2.2.1))
def sIndex_SegsOk_1_2_b (n : Nat) {R : Type} (K : Ex → Sm.St T → Option R) (c : List SSeg × Int) (x : Int) (J : Int → Option R) : Option R :=
  sIndex_SegsOk_1_L2 n (K (.exit 0) (stOf (T := T) [] [] [] [] () ())) (fun (y0 : Int) => K .ret (stOf (T := T) [4] [] [.one (.int .i64)] [] (y0, ()) ())) J c.1 c.2 x
def sIndex_SegsOk_1_2_sp (n : Nat) : LSpec T := mkSpec T ⟨[], [0, 1, 7, 8], []⟩ sIndex_SegsOk_1_2_sv sIndex_SegsOk_1_2_so (List SSeg × Int) (Int) sIndex_SegsOk_1_2_emb sIndex_SegsOk_1_2_prj (sIndex_SegsOk_1_2_b n)
noncomputable def sIndex_SegsOk_1_2_c : Code := ((loopCodes sIndex_SegsOk_1_code)[0]?).getD .skip
def sIndex_SegsOk_1_ann : Ann := fun id => bif Nat.beq id 3000002 then some ⟨[], [], []⟩ else bif Nat.beq id 2000002 then some ⟨[], [4], []⟩ else none
def sIndex_SegsOk_1_Ls (n : Nat) : Nat → Option (LSpec T) := fun id => bif Nat.beq id 2 then some (sIndex_SegsOk_1_2_sp n) else none
theorem sIndex_SegsOk_1_2_le (n : Nat) : LoopEq (T := T) (Phi n 19) (sIndex_SegsOk_1_Ls n) sIndex_SegsOk_1_ann n sIndex_SegsOk_1_2_c (sIndex_SegsOk_1_2_sp n) := ⟨mkSpec_dec (fun y => rfl), fun c x => by kernel_rfl, fun K J c x => by kernel_rfl⟩
theorem sIndex_SegsOk_1_tie (n : Nat) (s0 : List SSeg) : evF (T := T) (Phi n 19) (sIndex_SegsOk_1_Ls n) sIndex_SegsOk_1_ann n Try.f196 (sg 196) [vA T 89 s0, .fn 153 []] sIndex_SegsOk_1_dec = sIndex_SegsOk_1 n s0 := by kernel_rfl
theorem sIndex_SegsOk_1_lo (n : Nat) : LoopsOk (T := T) (Phi n 19) (sIndex_SegsOk_1_Ls n) sIndex_SegsOk_1_ann n sIndex_SegsOk_1_code := loopsOk_all (cs := [sIndex_SegsOk_1_2_c]) (by kernel_rfl) ⟨⟨_, by kernel_rfl, sIndex_SegsOk_1_2_le n⟩, trivial⟩
theorem sIndex_SegsOk_1_ok (n : Nat) : EntOk Try.prog (ents n) (sIndex_SegsOk_1_ent n) := by
  intro hs ar y hg h
  replace h : sIndex_SegsOk_1_D n ar = some y := h
  unfold sIndex_SegsOk_1_D at h
  split at h
  · obtain ⟨s0, qh0, h⟩ := obind_some h
    rw [argV_eq ok qh0] at hg ⊢
    cases (show [_] = [153] from natsEq_eq hg)
    exact call_of (phiE_nat _ _) hs ok mixed Try.func196 (c := sIndex_SegsOk_1_code) (by kernel_rfl) (sIndex_SegsOk_1_lo n) (by kernel_rfl) (by kernel_rfl) (by kernel_rfl) sIndex_SegsOk_1_de ((sIndex_SegsOk_1_tie n s0).trans h)
  · cases h
noncomputable def sContains_SegsOk_1_code : Code := match Try.f152.body with | some c => c | none => .skip
def sContains_SegsOk_1_ann : Ann := fun id => none
def sContains_SegsOk_1_Ls (n : Nat) : Nat → Option (LSpec T) := fun id => none
theorem sContains_SegsOk_1_tie (n : Nat) (s0 : List SSeg) : evF (T := T) (Phi n 20) (sContains_SegsOk_1_Ls n) sContains_SegsOk_1_ann n Try.f152 (sg 152) [vA T 89 s0, .fn 153 []] sContains_SegsOk_1_dec = sContains_SegsOk_1 n s0 := by kernel_rfl
theorem sContains_SegsOk_1_lo (n : Nat) : LoopsOk (T := T) (Phi n 20) (sContains_SegsOk_1_Ls n) sContains_SegsOk_1_ann n sContains_SegsOk_1_code := loopsOk_all (cs := []) (by kernel_rfl) trivial
theorem sContains_SegsOk_1_ok (n : Nat) : EntOk Try.prog (ents n) (sContains_SegsOk_1_ent n) := by
  intro hs ar y hg h
  replace h : sContains_SegsOk_1_D n ar = some y := h
  unfold sContains_SegsOk_1_D at h
  split at h
  · obtain ⟨s0, qh0, h⟩ := obind_some h
    rw [argV_eq ok qh0] at hg ⊢
    cases (show [_] = [153] from natsEq_eq hg)
    exact call_of (phiE_nat _ _) hs ok mixed Try.func152 (c := sContains_SegsOk_1_code) (by kernel_rfl) (sContains_SegsOk_1_lo n) (by kernel_rfl) (by kernel_rfl) (by kernel_rfl) sContains_SegsOk_1_de ((sContains_SegsOk_1_tie n s0).trans h)
  · cases h
theorem impl_written_ok (n : Nat) : EntOk Try.prog (ents n) (impl_written_ent n) := by
  intro hs ar y hg h
  replace h : impl_written_D n ar = some y := h
  unfold impl_written_D at h
  replace h := ocons_some h
  obtain ⟨a0, r1, rfl, h⟩ := h
  replace h := onil_some h
  obtain ⟨rfl, h⟩ := h
  replace h := obind_some h
  obtain ⟨l0, qh0, h⟩ := h
  replace h : wroteO (fun x => x.Tag) (fun x => x.Parts) l0 = some y := h
  rw [argV_eq ok qh0]
  have h2 : wroteO (fun x : SSeg => x.Tag) (fun x => (x.Parts).map fun r => r.map fun t => t) l0 = some y := by simpa using h
  exact wrote_call (T := T) ok (e := 100) (tp := 82) (ts := 9) (fun x => x.Tag) (fun x => x.Parts) (fun r => r) (fun t => t) (fun _ => rfl) (fun _ => rfl) (fun _ => rfl) (by kernel_rfl) (by kernel_rfl) (by kernel_rfl) (by kernel_rfl) (by kernel_rfl) (by kernel_rfl) (by kernel_rfl) h2
noncomputable def impl_SegsOk_code : Code := match Try.f61.body with | some c => c | none => .skip
def impl_SegsOk_ann : Ann := fun id => none
def impl_SegsOk_Ls (n : Nat) : Nat → Option (LSpec T) := fun id => none
theorem impl_SegsOk_tie (n : Nat) (list0 : List SSeg) : evF (T := T) (Phi n 22) (impl_SegsOk_Ls n) impl_SegsOk_ann n Try.f61 (sg 61) [vA T 89 list0] impl_SegsOk_dec = impl_SegsOk n list0 := by kernel_rfl
theorem impl_SegsOk_lo (n : Nat) : LoopsOk (T := T) (Phi n 22) (impl_SegsOk_Ls n) impl_SegsOk_ann n impl_SegsOk_code := loopsOk_all (cs := []) (by kernel_rfl) trivial
theorem impl_SegsOk_ok (n : Nat) : EntOk Try.prog (ents n) (impl_SegsOk_ent n) := by
  intro hs ar y hg h
  replace h : impl_SegsOk_D n ar = some y := h
  unfold impl_SegsOk_D at h
  replace h := ocons_some h
  obtain ⟨a0, r0, rfl, h⟩ := h
  replace h := onil_some h
  obtain ⟨rfl, h⟩ := h
  obtain ⟨list0, qh0, h⟩ := obind_some h
  rw [argV_eq ok qh0]
  exact call_of (phiE_nat _ _) hs ok mixed Try.func61 (c := impl_SegsOk_code) (by kernel_rfl) (impl_SegsOk_lo n) (by kernel_rfl) (by kernel_rfl) (by kernel_rfl) impl_SegsOk_de ((impl_SegsOk_tie n list0).trans h)
noncomputable def impl_WriteSegs_code : Code := match Try.f59.body with | some c => c | none => .skip
def impl_WriteSegs_ann : Ann := fun id => none
def impl_WriteSegs_Ls (n : Nat) : Nat → Option (LSpec T) := fun id => none
theorem impl_WriteSegs_tie (n : Nat) (list0 : List SSeg) : evF (T := T) (Phi n 23) (impl_WriteSegs_Ls n) impl_WriteSegs_ann n Try.f59 (sg 59) [vA T 89 list0] impl_WriteSegs_dec = impl_WriteSegs n list0 := by kernel_rfl
theorem impl_WriteSegs_lo (n : Nat) : LoopsOk (T := T) (Phi n 23) (impl_WriteSegs_Ls n) impl_WriteSegs_ann n impl_WriteSegs_code := loopsOk_all (cs := []) (by kernel_rfl) trivial
theorem impl_WriteSegs_ok (n : Nat) : EntOk Try.prog (ents n) (impl_WriteSegs_ent n) := by
  intro hs ar y hg h
  replace h : impl_WriteSegs_D n ar = some y := h
  unfold impl_WriteSegs_D at h
  replace h := ocons_some h
  obtain ⟨a0, r0, rfl, h⟩ := h
  replace h := onil_some h
  obtain ⟨rfl, h⟩ := h
  obtain ⟨list0, qh0, h⟩ := obind_some h
  rw [argV_eq ok qh0]
  exact call_of (phiE_nat _ _) hs ok mixed Try.func59 (c := impl_WriteSegs_code) (by kernel_rfl) (impl_WriteSegs_lo n) (by kernel_rfl) (by kernel_rfl) (by kernel_rfl) impl_WriteSegs_de ((impl_WriteSegs_tie n list0).trans h)
noncomputable def spec_l1In_code : Code := match Try.f73.body with | some c => c | none => .skip
def spec_l1In_ann : Ann := fun id => none
def spec_l1In_Ls (n : Nat) : Nat → Option (LSpec T) := fun id => none
theorem spec_l1In_tie (n : Nat) (x0 : Int) (a1 : Int) (b2 : Int) : evF (T := T) (Phi n 24) (spec_l1In_Ls n) spec_l1In_ann n Try.f73 (sg 73) [vA T 3 x0, vA T 3 a1, vA T 3 b2] spec_l1In_dec = spec_l1In n x0 a1 b2 := by kernel_rfl
theorem spec_l1In_lo (n : Nat) : LoopsOk (T := T) (Phi n 24) (spec_l1In_Ls n) spec_l1In_ann n spec_l1In_code := loopsOk_all (cs := []) (by kernel_rfl) trivial
theorem spec_l1In_ok (n : Nat) : EntOk Try.prog (ents n) (spec_l1In_ent n) := by
  intro hs ar y hg h
  replace h : spec_l1In_D n ar = some y := h
  unfold spec_l1In_D at h
  replace h := ocons_some h
  obtain ⟨a0, r0, rfl, h⟩ := h
  replace h := ocons_some h
  obtain ⟨a1, r1, rfl, h⟩ := h
  replace h := ocons_some h
  obtain ⟨a2, r2, rfl, h⟩ := h
  replace h := onil_some h
  obtain ⟨rfl, h⟩ := h
  obtain ⟨x0, qh0, h⟩ := obind_some h
  obtain ⟨a1, qh1, h⟩ := obind_some h
  obtain ⟨b2, qh2, h⟩ := obind_some h
  rw [argV_eq ok qh0, argV_eq ok qh1, argV_eq ok qh2]
  exact call_of (phiE_nat _ _) hs ok mixed Try.func73 (c := spec_l1In_code) (by kernel_rfl) (spec_l1In_lo n) (by kernel_rfl) (by kernel_rfl) (by kernel_rfl) spec_l1In_de ((spec_l1In_tie n x0 a1 b2).trans h)
noncomputable def spec_l21Seg_code : Code := match Try.f150.body with | some c => c | none => .skip
def spec_l21Seg_4_sv : List Sv := [.one (.ptr 8 0 0), .one (.int .i64)]
def spec_l21Seg_4_so : List So := [.var [.str, .arr 82]]
def spec_l21Seg_4_emb (c : SSeg) (x : Int) : EVs T spec_l21Seg_4_sv × EOs T spec_l21Seg_4_so := (((), x, ()), ((c.Tag, c.Parts, ()), ()))
def spec_l21Seg_4_prj (y : EVs T spec_l21Seg_4_sv × EOs T spec_l21Seg_4_so) : SSeg × Int := ((((⟨y.2.1.1, y.2.1.2.1⟩ : SSeg) : SSeg)), (y.1.2.1))
def spec_l21Seg_4_b (n : Nat) {R : Type} (K : Ex → Sm.St T → Option R) (c : SSeg) (x : Int) (J : Int → Option R) : Option R :=
  spec_l21Seg_L4 n (K (.exit 0) (stOf (T := T) [1] [8] [.one (.ptr 8 0 0)] [.var [.str, .arr 82]] ((), ()) ((c.Tag, c.Parts, ()), ()))) (fun (y0 : Bool) => K .ret (stOf (T := T) [2] [] [.one (.bool)] [] (y0, ()) ())) J x c
def spec_l21Seg_4_sp (n : Nat) : LSpec T := mkSpec T ⟨[], [1, 3], [8]⟩ spec_l21Seg_4_sv spec_l21Seg_4_so (SSeg) (Int) spec_l21Seg_4_emb spec_l21Seg_4_prj (spec_l21Seg_4_b n)
noncomputable def spec_l21Seg_4_c : Code := ((loopCodes spec_l21Seg_code)[0]?).getD .skip
def spec_l21Seg_9_sv : List Sv := [.one (.ptr 8 0 0), .one (.int .i64)]
def spec_l21Seg_9_so : List So := [.var [.str, .arr 82]]
def spec_l21Seg_9_emb (c : SSeg) (x : Int) : EVs T spec_l21Seg_9_sv × EOs T spec_l21Seg_9_so := (((), x, ()), ((c.Tag, c.Parts, ()), ()))
def spec_l21Seg_9_prj (y : EVs T spec_l21Seg_9_sv × EOs T spec_l21Seg_9_so) : SSeg × Int := ((((⟨y.2.1.1, y.2.1.2.1⟩ : SSeg) : SSeg)), (y.1.2.1))
def spec_l21Seg_9_b (n : Nat) {R : Type} (K : Ex → Sm.St T → Option R) (c : SSeg) (x : Int) (J : Int → Option R) : Option R :=
  spec_l21Seg_L9 n (K (.exit 2) (stOf (T := T) [] [] [] [] () ())) (fun (y0 : Bool) => K .ret (stOf (T := T) [2] [] [.one (.bool)] [] (y0, ()) ())) J x c
def spec_l21Seg_9_sp (n : Nat) : LSpec T := mkSpec T ⟨[], [1, 4], [8]⟩ spec_l21Seg_9_sv spec_l21Seg_9_so (SSeg) (Int) spec_l21Seg_9_emb spec_l21Seg_9_prj (spec_l21Seg_9_b n)
noncomputable def spec_l21Seg_9_c : Code := ((loopCodes spec_l21Seg_code)[1]?).getD .skip
def spec_l21Seg_14_sv : List Sv := [.one (.ptr 8 0 0), .one (.int .i64), .one (.int .i64)]
def spec_l21Seg_14_so : List So := [.var [.str, .arr 82]]
def spec_l21Seg_14_emb (c : Int × SSeg) (x : Int) : EVs T spec_l21Seg_14_sv × EOs T spec_l21Seg_14_so := (((), c.1, x, ()), ((c.2.Tag, c.2.Parts, ()), ()))
def spec_l21Seg_14_prj (y : EVs T spec_l21Seg_14_sv × EOs T spec_l21Seg_14_so) : (Int × SSeg) × Int := ((y.1.2.1, ((⟨y.2.1.1, y.2.1.2.1⟩ : SSeg) : SSeg)), (y.1.2.2.1))
def spec_l21Seg_14_b (n : Nat) {R : Type} (K : Ex → Sm.St T → Option R) (c : Int × SSeg) (x : Int) (J : Int → Option R) : Option R :=
  spec_l21Seg_L14 n (K (.exit 4) (stOf (T := T) [1, 4] [8] [.one (.ptr 8 0 0), .one (.int .i64)] [.var [.str, .arr 82]] ((), c.1, ()) ((c.2.Tag, c.2.Parts, ()), ()))) (fun (y0 : Bool) => K .ret (stOf (T := T) [2] [] [.one (.bool)] [] (y0, ()) ())) J c.1 x c.2
def spec_l21Seg_14_sp (n : Nat) : LSpec T := mkSpec T ⟨[], [1, 4, 5], [8]⟩ spec_l21Seg_14_sv spec_l21Seg_14_so (Int × SSeg) (Int) spec_l21Seg_14_emb spec_l21Seg_14_prj (spec_l21Seg_14_b n)
noncomputable def spec_l21Seg_14_c : Code := ((loopCodes spec_l21Seg_code)[2]?).getD .skip
def spec_l21Seg_18_sv : List Sv := [.one (.ptr 8 0 0), .one (.int .i64), .one (.int .i64), .one (.str), .one (.int .i64)]
def spec_l21Seg_18_so : List So := [.var [.str, .arr 82]]
def spec_l21Seg_18_emb (c : Int × Int × ByteArray × SSeg) (x : Int) : EVs T spec_l21Seg_18_sv × EOs T spec_l21Seg_18_so := (((), c.1, c.2.1, c.2.2.1, x, ()), ((c.2.2.2.Tag, c.2.2.2.Parts, ()), ()))
def spec_l21Seg_18_prj (y : EVs T spec_l21Seg_18_sv × EOs T spec_l21Seg_18_so) : (Int × Int × ByteArray × SSeg) × Int := ((y.1.2.1, y.1.2.2.1, y.1.2.2.2.1, ((⟨y.2.1.1, y.2.1.2.1⟩ : SSeg) : SSeg)), (y.1.2.2.2.2.1))
def spec_l21Seg_18_b (n : Nat) {R : Type} (K : Ex → Sm.St T → Option R) (c : Int × Int × ByteArray × SSeg) (x : Int) (J : Int → Option R) : Option R :=
  spec_l21Seg_L18 n (K (.exit 6) (stOf (T := T) [1, 4, 5, 6] [8] [.one (.ptr 8 0 0), .one (.int .i64), .one (.int .i64), .one (.str)] [.var [.str, .arr 82]] ((), c.1, c.2.1, c.2.2.1, ()) ((c.2.2.2.Tag, c.2.2.2.Parts, ()), ()))) (fun (y0 : Bool) => K .ret (stOf (T := T) [2] [] [.one (.bool)] [] (y0, ()) ())) J c.1 c.2.1 c.2.2.1 x c.2.2.2
def spec_l21Seg_18_sp (n : Nat) : LSpec T := mkSpec T ⟨[], [1, 4, 5, 6, 7], [8]⟩ spec_l21Seg_18_sv spec_l21Seg_18_so (Int × Int × ByteArray × SSeg) (Int) spec_l21Seg_18_emb spec_l21Seg_18_prj (spec_l21Seg_18_b n)
noncomputable def spec_l21Seg_18_c : Code := ((loopCodes spec_l21Seg_code)[3]?).getD .skip
def spec_l21Seg_ann : Ann := fun id => bif Nat.beq id 3000004 then some ⟨[], [1], [8]⟩ else bif Nat.beq id 2000004 then some ⟨[], [2], []⟩ else bif Nat.beq id 5000009 then some ⟨[], [], []⟩ else bif Nat.beq id 2000009 then some ⟨[], [2], []⟩ else bif Nat.beq id 7000014 then some ⟨[], [1, 4], [8]⟩ else bif Nat.beq id 2000014 then some ⟨[], [2], []⟩ else bif Nat.beq id 9000018 then some ⟨[], [1, 4, 5, 6], [8]⟩ else bif Nat.beq id 2000018 then some ⟨[], [2], []⟩ else none
def spec_l21Seg_Ls (n : Nat) : Nat → Option (LSpec T) := fun id => bif Nat.beq id 4 then some (spec_l21Seg_4_sp n) else bif Nat.beq id 9 then some (spec_l21Seg_9_sp n) else bif Nat.beq id 14 then some (spec_l21Seg_14_sp n) else bif Nat.beq id 18 then some (spec_l21Seg_18_sp n) else none
theorem spec_l21Seg_4_le (n : Nat) : LoopEq (T := T) (Phi n 25) (spec_l21Seg_Ls n) spec_l21Seg_ann n spec_l21Seg_4_c (spec_l21Seg_4_sp n) := ⟨mkSpec_dec (fun y => rfl), fun c x => by kernel_rfl, fun K J c x => by kernel_rfl⟩
theorem spec_l21Seg_9_le (n : Nat) : LoopEq (T := T) (Phi n 25) (spec_l21Seg_Ls n) spec_l21Seg_ann n spec_l21Seg_9_c (spec_l21Seg_9_sp n) := ⟨mkSpec_dec (fun y => rfl), fun c x => by kernel_rfl, fun K J c x => by kernel_rfl⟩
theorem spec_l21Seg_14_le (n : Nat) : LoopEq (T := T) (Phi n 25) (spec_l21Seg_Ls n) spec_l21Seg_ann n spec_l21Seg_14_c (spec_l21Seg_14_sp n) := ⟨mkSpec_dec (fun y => rfl), fun c x => by kernel_rfl, fun K J c x => by kernel_rfl⟩
theorem spec_l21Seg_18_le (n : Nat) : LoopEq (T := T) (Phi n 25) (spec_l21Seg_Ls n) spec_l21Seg_ann n spec_l21Seg_18_c (spec_l21Seg_18_sp n) := ⟨mkSpec_dec (fun y => rfl), fun c x => by kernel_rfl, fun K J c x => by kernel_rfl⟩
theorem spec_l21Seg_tie (n : Nat) (s0 : SSeg) : evF (T := T) (Phi n 25) (spec_l21Seg_Ls n) spec_l21Seg_ann n Try.f150 (sg 150) [vA T 100 s0] spec_l21Seg_dec = spec_l21Seg n s0 := by kernel_rfl
theorem spec_l21Seg_lo (n : Nat) : LoopsOk (T := T) (Phi n 25) (spec_l21Seg_Ls n) spec_l21Seg_ann n spec_l21Seg_code := loopsOk_all (cs := [spec_l21Seg_4_c, spec_l21Seg_9_c, spec_l21Seg_14_c, spec_l21Seg_18_c]) (by kernel_rfl) ⟨⟨_, by kernel_rfl, spec_l21Seg_4_le n⟩, ⟨_, by kernel_rfl, spec_l21Seg_9_le n⟩, ⟨_, by kernel_rfl, spec_l21Seg_14_le n⟩, ⟨_, by kernel_rfl, spec_l21Seg_18_le n⟩, trivial⟩
theorem spec_l21Seg_ok (n : Nat) : EntOk Try.prog (ents n) (spec_l21Seg_ent n) := by
  intro hs ar y hg h
  replace h : spec_l21Seg_D n ar = some y := h
  unfold spec_l21Seg_D at h
  replace h := ocons_some h
  obtain ⟨a0, r0, rfl, h⟩ := h
  replace h := onil_some h
  obtain ⟨rfl, h⟩ := h
  obtain ⟨s0, qh0, h⟩ := obind_some h
  rw [argV_eq ok qh0]
  exact call_of (phiE_nat _ _) hs ok mixed Try.func150 (c := spec_l21Seg_code) (by kernel_rfl) (spec_l21Seg_lo n) (by kernel_rfl) (by kernel_rfl) (by kernel_rfl) spec_l21Seg_de ((spec_l21Seg_tie n s0).trans h)
noncomputable def spec_l21Mark_code : Code := match Try.f136.body with | some c => c | none => .skip
def spec_l21Mark_ann : Ann := fun id => none
def spec_l21Mark_Ls (n : Nat) : Nat → Option (LSpec T) := fun id => none
theorem spec_l21Mark_tie (n : Nat) (b0 : Int) : evF (T := T) (Phi n 26) (spec_l21Mark_Ls n) spec_l21Mark_ann n Try.f136 (sg 136) [vA T 5 b0] spec_l21Mark_dec = spec_l21Mark n b0 := by kernel_rfl
theorem spec_l21Mark_lo (n : Nat) : LoopsOk (T := T) (Phi n 26) (spec_l21Mark_Ls n) spec_l21Mark_ann n spec_l21Mark_code := loopsOk_all (cs := []) (by kernel_rfl) trivial
theorem spec_l21Mark_ok (n : Nat) : EntOk Try.prog (ents n) (spec_l21Mark_ent n) := by
  intro hs ar y hg h
  replace h : spec_l21Mark_D n ar = some y := h
  unfold spec_l21Mark_D at h
  replace h := ocons_some h
  obtain ⟨a0, r0, rfl, h⟩ := h
  replace h := onil_some h
  obtain ⟨rfl, h⟩ := h
  obtain ⟨b0, qh0, h⟩ := obind_some h
  rw [argV_eq ok qh0]
  exact call_of (phiE_nat _ _) hs ok mixed Try.func136 (c := spec_l21Mark_code) (by kernel_rfl) (spec_l21Mark_lo n) (by kernel_rfl) (by kernel_rfl) (by kernel_rfl) spec_l21Mark_de ((spec_l21Mark_tie n b0).trans h)
noncomputable def spec_l21Write_code : Code := match Try.f151.body with | some c => c | none => .skip
def spec_l21Write_3_sv : List Sv := [.one (.arr 100), .one (.own 3000000 5 false), .one (.int .i64)]
def spec_l21Write_3_so : List So := [.arr 5 false]
def spec_l21Write_3_emb (c : List SSeg) (x : Int × List Int) : EVs T spec_l21Write_3_sv × EOs T spec_l21Write_3_so := ((c, (), x.1, ()), (x.2, ()))
def spec_l21Write_3_prj (y : EVs T spec_l21Write_3_sv × EOs T spec_l21Write_3_so) : List SSeg × (Int × List Int) := ((y.1.1), (y.1.2.2.1, y.2.1))
def spec_l21Write_3_b (n : Nat) {R : Type} (K : Ex → Sm.St T → Option R) (c : List SSeg) (x : Int × List Int) (J : (Int × List Int) → Option R) : Option R :=
  spec_l21Write_L3 n (fun (y0 : List Int) => K (.exit 0) (stOf (T := T) [3] [3000000] [.one (.own 3000000 5 false)] [.arr 5 false] ((), ()) (y0, ()))) (fun z0 z1 => J (z0, z1)) c x.1 x.2
def spec_l21Write_3_sp (n : Nat) : LSpec T := mkSpec T ⟨[((.reg 3), 3000000, 5)], [0, 3, 4], [3000000]⟩ spec_l21Write_3_sv spec_l21Write_3_so (List SSeg) (Int × List Int) spec_l21Write_3_emb spec_l21Write_3_prj (spec_l21Write_3_b n)
noncomputable def spec_l21Write_3_c : Code := ((loopCodes spec_l21Write_code)[0]?).getD .skip
def spec_l21Write_7_sv : List Sv := [.one (.arr 100), .one (.own 3000000 5 false), .one (.int .i64), .one (.int .i64)]
def spec_l21Write_7_so : List So := [.arr 5 false]
def spec_l21Write_7_emb (c : List SSeg × Int) (x : Int × List Int) : EVs T spec_l21Write_7_sv × EOs T spec_l21Write_7_so := ((c.1, (), c.2, x.1, ()), (x.2, ()))
def spec_l21Write_7_prj (y : EVs T spec_l21Write_7_sv × EOs T spec_l21Write_7_so) : (List SSeg × Int) × (Int × List Int) := ((y.1.1, y.1.2.2.1), (y.1.2.2.2.1, y.2.1))
def spec_l21Write_7_b (n : Nat) {R : Type} (K : Ex → Sm.St T → Option R) (c : List SSeg × Int) (x : Int × List Int) (J : (Int × List Int) → Option R) : Option R :=
  spec_l21Write_L7 n (fun (y2 : List Int) => K (.exit 2) (stOf (T := T) [0, 3, 4] [3000000] [.one (.arr 100), .one (.own 3000000 5 false), .one (.int .i64)] [.arr 5 false] (c.1, (), c.2, ()) (y2, ()))) (fun z0 z1 => J (z0, z1)) c.1 c.2 x.1 x.2
def spec_l21Write_7_sp (n : Nat) : LSpec T := mkSpec T ⟨[((.reg 3), 3000000, 5)], [0, 3, 4, 5], [3000000]⟩ spec_l21Write_7_sv spec_l21Write_7_so (List SSeg × Int) (Int × List Int) spec_l21Write_7_emb spec_l21Write_7_prj (spec_l21Write_7_b n)
noncomputable def spec_l21Write_7_c : Code := ((loopCodes spec_l21Write_code)[1]?).getD .skip
def spec_l21Write_10_sv : List Sv := [.one (.arr 100), .one (.own 3000000 5 false), .one (.int .i64), .one (.int .i64), .one (.int .i64)]
def spec_l21Write_10_so : List So := [.arr 5 false]
def spec_l21Write_10_emb (c : List SSeg × Int × Int) (x : Int × List Int) : EVs T spec_l21Write_10_sv × EOs T spec_l21Write_10_so := ((c.1, (), c.2.1, c.2.2, x.1, ()), (x.2, ()))
def spec_l21Write_10_prj (y : EVs T spec_l21Write_10_sv × EOs T spec_l21Write_10_so) : (List SSeg × Int × Int) × (Int × List Int) := ((y.1.1, y.1.2.2.1, y.1.2.2.2.1), (y.1.2.2.2.2.1, y.2.1))
def spec_l21Write_10_b (n : Nat) {R : Type} (K : Ex → Sm.St T → Option R) (c : List SSeg × Int × Int) (x : Int × List Int) (J : (Int × List Int) → Option R) : Option R :=
  spec_l21Write_L10 n (fun (y3 : List Int) => K (.exit 4) (stOf (T := T) [0, 3, 4, 5] [3000000] [.one (.arr 100), .one (.own 3000000 5 false), .one (.int .i64), .one (.int .i64)] [.arr 5 false] (c.1, (), c.2.1, c.2.2, ()) (y3, ()))) (fun z0 z1 => J (z0, z1)) c.1 c.2.1 c.2.2 x.1 x.2
def spec_l21Write_10_sp (n : Nat) : LSpec T := mkSpec T ⟨[((.reg 3), 3000000, 5)], [0, 3, 4, 5, 6], [3000000]⟩ spec_l21Write_10_sv spec_l21Write_10_so (List SSeg × Int × Int) (Int × List Int) spec_l21Write_10_emb spec_l21Write_10_prj (spec_l21Write_10_b n)
noncomputable def spec_l21Write_10_c : Code := ((loopCodes spec_l21Write_code)[2]?).getD .skip
def spec_l21Write_18_sv : List Sv := [.one (.arr 100), .one (.own 3000000 5 false), .one (.int .i64), .one (.int .i64), .one (.int .i64), .one (.str), .one (.int .i64)]
def spec_l21Write_18_so : List So := [.arr 5 false]
def spec_l21Write_18_emb (c : List SSeg × Int × Int × Int × ByteArray) (x : Int × List Int) : EVs T spec_l21Write_18_sv × EOs T spec_l21Write_18_so := ((c.1, (), c.2.1, c.2.2.1, c.2.2.2.1, c.2.2.2.2, x.1, ()), (x.2, ()))
def spec_l21Write_18_prj (y : EVs T spec_l21Write_18_sv × EOs T spec_l21Write_18_so) : (List SSeg × Int × Int × Int × ByteArray) × (Int × List Int) := ((y.1.1, y.1.2.2.1, y.1.2.2.2.1, y.1.2.2.2.2.1, y.1.2.2.2.2.2.1), (y.1.2.2.2.2.2.2.1, y.2.1))
def spec_l21Write_18_b (n : Nat) {R : Type} (K : Ex → Sm.St T → Option R) (c : List SSeg × Int × Int × Int × ByteArray) (x : Int × List Int) (J : (Int × List Int) → Option R) : Option R :=
  spec_l21Write_L18 n (fun (y4 : List Int) => K (.exit 6) (stOf (T := T) [0, 3, 4, 5, 6] [3000000] [.one (.arr 100), .one (.own 3000000 5 false), .one (.int .i64), .one (.int .i64), .one (.int .i64)] [.arr 5 false] (c.1, (), c.2.1, c.2.2.1, c.2.2.2.1, ()) (y4, ()))) (fun z0 z1 => J (z0, z1)) c.1 c.2.1 c.2.2.1 c.2.2.2.1 c.2.2.2.2 x.1 x.2
def spec_l21Write_18_sp (n : Nat) : LSpec T := mkSpec T ⟨[((.reg 3), 3000000, 5)], [0, 3, 4, 5, 6, 8, 9], [3000000]⟩ spec_l21Write_18_sv spec_l21Write_18_so (List SSeg × Int × Int × Int × ByteArray) (Int × List Int) spec_l21Write_18_emb spec_l21Write_18_prj (spec_l21Write_18_b n)
noncomputable def spec_l21Write_18_c : Code := ((loopCodes spec_l21Write_code)[3]?).getD .skip
def spec_l21Write_ann : Ann := fun id => bif Nat.beq id 3000003 then some ⟨[((.reg 3), 3000000, 5)], [3], [3000000]⟩ else bif Nat.beq id 5000007 then some ⟨[((.reg 3), 3000000, 5)], [0, 3, 4], [3000000]⟩ else bif Nat.beq id 7000010 then some ⟨[((.reg 3), 3000000, 5)], [0, 3, 4, 5], [3000000]⟩ else bif Nat.beq id 9000018 then some ⟨[((.reg 3), 3000000, 5)], [0, 3, 4, 5, 6], [3000000]⟩ else none
def spec_l21Write_Ls (n : Nat) : Nat → Option (LSpec T) := fun id => bif Nat.beq id 3 then some (spec_l21Write_3_sp n) else bif Nat.beq id 7 then some (spec_l21Write_7_sp n) else bif Nat.beq id 10 then some (spec_l21Write_10_sp n) else bif Nat.beq id 18 then some (spec_l21Write_18_sp n) else none
theorem spec_l21Write_3_le (n : Nat) : LoopEq (T := T) (Phi n 27) (spec_l21Write_Ls n) spec_l21Write_ann n spec_l21Write_3_c (spec_l21Write_3_sp n) := ⟨mkSpec_dec (fun y => rfl), fun c x => by kernel_rfl, fun K J c x => by kernel_rfl⟩
theorem spec_l21Write_7_le (n : Nat) : LoopEq (T := T) (Phi n 27) (spec_l21Write_Ls n) spec_l21Write_ann n spec_l21Write_7_c (spec_l21Write_7_sp n) := ⟨mkSpec_dec (fun y => rfl), fun c x => by kernel_rfl, fun K J c x => by kernel_rfl⟩
theorem spec_l21Write_10_le (n : Nat) : LoopEq (T := T) (Phi n 27) (spec_l21Write_Ls n) spec_l21Write_ann n spec_l21Write_10_c (spec_l21Write_10_sp n) := ⟨mkSpec_dec (fun y => rfl), fun c x => by kernel_rfl, fun K J c x => by kernel_rfl⟩
theorem spec_l21Write_18_le (n : Nat) : LoopEq (T := T) (Phi n 27) (spec_l21Write_Ls n) spec_l21Write_ann n spec_l21Write_18_c (spec_l21Write_18_sp n) := ⟨mkSpec_dec (fun y => rfl), fun c x => by kernel_rfl, fun K J c x => by kernel_rfl⟩
theorem spec_l21Write_tie (n : Nat) (list0 : List SSeg) : evF (T := T) (Phi n 27) (spec_l21Write_Ls n) spec_l21Write_ann n Try.f151 (sg 151) [vA T 89 list0] spec_l21Write_dec = spec_l21Write n list0 := by kernel_rfl
theorem spec_l21Write_lo (n : Nat) : LoopsOk (T := T) (Phi n 27) (spec_l21Write_Ls n) spec_l21Write_ann n spec_l21Write_code := loopsOk_all (cs := [spec_l21Write_3_c, spec_l21Write_7_c, spec_l21Write_10_c, spec_l21Write_18_c]) (by kernel_rfl) ⟨⟨_, by kernel_rfl, spec_l21Write_3_le n⟩, ⟨_, by kernel_rfl, spec_l21Write_7_le n⟩, ⟨_, by kernel_rfl, spec_l21Write_10_le n⟩, ⟨_, by kernel_rfl, spec_l21Write_18_le n⟩, trivial⟩
theorem spec_l21Write_ok (n : Nat) : EntOk Try.prog (ents n) (spec_l21Write_ent n) := by
  intro hs ar y hg h
  replace h : spec_l21Write_D n ar = some y := h
  unfold spec_l21Write_D at h
  replace h := ocons_some h
  obtain ⟨a0, r0, rfl, h⟩ := h
  replace h := onil_some h
  obtain ⟨rfl, h⟩ := h
  obtain ⟨list0, qh0, h⟩ := obind_some h
  rw [argV_eq ok qh0]
  exact call_of (phiE_nat _ _) hs ok mixed Try.func151 (c := spec_l21Write_code) (by kernel_rfl) (spec_l21Write_lo n) (by kernel_rfl) (by kernel_rfl) (by kernel_rfl) spec_l21Write_de ((spec_l21Write_tie n list0).trans h)
noncomputable def spec_SegsOk_code : Code := match Try.f60.body with | some c => c | none => .skip
def spec_SegsOk_4_sv : List Sv := [.one (.arr 100), .one (.int .i64)]
def spec_SegsOk_4_so : List So := []
def spec_SegsOk_4_emb (c : List SSeg) (x : Int) : EVs T spec_SegsOk_4_sv × EOs T spec_SegsOk_4_so := ((c, x, ()), ())
def spec_SegsOk_4_prj (y : EVs T spec_SegsOk_4_sv × EOs T spec_SegsOk_4_so) : List SSeg × Int := ((y.1.1), (y.1.2.1))
def spec_SegsOk_4_b (n : Nat) {R : Type} (K : Ex → Sm.St T → Option R) (c : List SSeg) (x : Int) (J : Int → Option R) : Option R :=
  spec_SegsOk_L4 n (K (.exit 0) (stOf (T := T) [0] [] [.one (.arr 100)] [] (c, ()) ())) (fun (y0 : Bool) => K .ret (stOf (T := T) [2] [] [.one (.bool)] [] (y0, ()) ())) J c x
def spec_SegsOk_4_sp (n : Nat) : LSpec T := mkSpec T ⟨[], [0, 3], []⟩ spec_SegsOk_4_sv spec_SegsOk_4_so (List SSeg) (Int) spec_SegsOk_4_emb spec_SegsOk_4_prj (spec_SegsOk_4_b n)
noncomputable def spec_SegsOk_4_c : Code := ((loopCodes spec_SegsOk_code)[0]?).getD .skip
def spec_SegsOk_ann : Ann := fun id => bif Nat.beq id 3000004 then some ⟨[], [0], []⟩ else bif Nat.beq id 2000004 then some ⟨[], [2], []⟩ else none
def spec_SegsOk_Ls (n : Nat) : Nat → Option (LSpec T) := fun id => bif Nat.beq id 4 then some (spec_SegsOk_4_sp n) else none
theorem spec_SegsOk_4_le (n : Nat) : LoopEq (T := T) (Phi n 28) (spec_SegsOk_Ls n) spec_SegsOk_ann n spec_SegsOk_4_c (spec_SegsOk_4_sp n) := ⟨mkSpec_dec (fun y => rfl), fun c x => by kernel_rfl, fun K J c x => by kernel_rfl⟩
theorem spec_SegsOk_tie (n : Nat) (list0 : List SSeg) : evF (T := T) (Phi n 28) (spec_SegsOk_Ls n) spec_SegsOk_ann n Try.f60 (sg 60) [vA T 89 list0] spec_SegsOk_dec = spec_SegsOk n list0 := by kernel_rfl
theorem spec_SegsOk_lo (n : Nat) : LoopsOk (T := T) (Phi n 28) (spec_SegsOk_Ls n) spec_SegsOk_ann n spec_SegsOk_code := loopsOk_all (cs := [spec_SegsOk_4_c]) (by kernel_rfl) ⟨⟨_, by kernel_rfl, spec_SegsOk_4_le n⟩, trivial⟩
theorem spec_SegsOk_ok (n : Nat) : EntOk Try.prog (ents n) (spec_SegsOk_ent n) := by
  intro hs ar y hg h
  replace h : spec_SegsOk_D n ar = some y := h
  unfold spec_SegsOk_D at h
  replace h := ocons_some h
  obtain ⟨a0, r0, rfl, h⟩ := h
  replace h := onil_some h
  obtain ⟨rfl, h⟩ := h
  obtain ⟨list0, qh0, h⟩ := obind_some h
  rw [argV_eq ok qh0]
  exact call_of (phiE_nat _ _) hs ok mixed Try.func60 (c := spec_SegsOk_code) (by kernel_rfl) (spec_SegsOk_lo n) (by kernel_rfl) (by kernel_rfl) (by kernel_rfl) spec_SegsOk_de ((spec_SegsOk_tie n list0).trans h)
noncomputable def impl_ReadSegs_1_code : Code := match Try.f138.body with | some c => c | none => .skip
def impl_ReadSegs_1_ann : Ann := fun id => none
def impl_ReadSegs_1_Ls (n : Nat) : Nat → Option (LSpec T) := fun id => none
theorem impl_ReadSegs_1_tie (n : Nat) (a0 : SSeg) (a1 : List Int) : evF (T := T) (Phi n 29) (impl_ReadSegs_1_Ls n) impl_ReadSegs_1_ann n Try.f138 (sg 138) [.ptr 100 a0, .ptr 34 a1] impl_ReadSegs_1_dec = impl_ReadSegs_1 n a0 a1 := by kernel_rfl
theorem impl_ReadSegs_1_lo (n : Nat) : LoopsOk (T := T) (Phi n 29) (impl_ReadSegs_1_Ls n) impl_ReadSegs_1_ann n impl_ReadSegs_1_code := loopsOk_all (cs := []) (by kernel_rfl) trivial
theorem impl_ReadSegs_1_ok (n : Nat) : EntOk Try.prog (ents n) (impl_ReadSegs_1_ent n) := by
  intro hs ar y hg h
  replace h : impl_ReadSegs_1_D n ar = some y := h
  unfold impl_ReadSegs_1_D at h
  replace h := ocons_some h
  obtain ⟨a0, r0, rfl, h⟩ := h
  replace h := ocons_some h
  obtain ⟨a1, r1, rfl, h⟩ := h
  replace h := onil_some h
  obtain ⟨rfl, h⟩ := h
  obtain ⟨a0, qh0, h⟩ := obind_some h
  obtain ⟨a1, qh1, h⟩ := obind_some h
  rw [argP_eq qh0, argP_eq qh1]
  exact call_of (phiE_nat _ _) hs ok mixed Try.func138 (c := impl_ReadSegs_1_code) (by kernel_rfl) (impl_ReadSegs_1_lo n) (by kernel_rfl) (by kernel_rfl) (by kernel_rfl) impl_ReadSegs_1_de ((impl_ReadSegs_1_tie n a0 a1).trans h)
noncomputable def impl_marked_code : Code := match Try.f140.body with | some c => c | none => .skip
def impl_marked_ann : Ann := fun id => none
def impl_marked_Ls (n : Nat) : Nat → Option (LSpec T) := fun id => none
theorem impl_marked_tie (n : Nat) (c0 : Int) : evF (T := T) (Phi n 30) (impl_marked_Ls n) impl_marked_ann n Try.f140 (sg 140) [vA T 5 c0] impl_marked_dec = impl_marked n c0 := by kernel_rfl
theorem impl_marked_lo (n : Nat) : LoopsOk (T := T) (Phi n 30) (impl_marked_Ls n) impl_marked_ann n impl_marked_code := loopsOk_all (cs := []) (by kernel_rfl) trivial
theorem impl_marked_ok (n : Nat) : EntOk Try.prog (ents n) (impl_marked_ent n) := by
  intro hs ar y hg h
  replace h : impl_marked_D n ar = some y := h
  unfold impl_marked_D at h
  replace h := ocons_some h
  obtain ⟨a0, r0, rfl, h⟩ := h
  replace h := onil_some h
  obtain ⟨rfl, h⟩ := h
  obtain ⟨c0, qh0, h⟩ := obind_some h
  rw [argV_eq ok qh0]
  exact call_of (phiE_nat _ _) hs ok mixed Try.func140 (c := impl_marked_code) (by kernel_rfl) (impl_marked_lo n) (by kernel_rfl) (by kernel_rfl) (by kernel_rfl) impl_marked_de ((impl_marked_tie n c0).trans h)
noncomputable def impl_own_string_code : Code := match Try.f141.body with | some c => c | none => .skip
def impl_own_string_ann : Ann := fun id => none
def impl_own_string_Ls (n : Nat) : Nat → Option (LSpec T) := fun id => none
theorem impl_own_string_tie (n : Nat) (l0 : List ByteArray) : evF (T := T) (Phi n 31) (impl_own_string_Ls n) impl_own_string_ann n Try.f141 (sg 141) [vA T 82 l0] impl_own_string_dec = impl_own_string n l0 := by kernel_rfl
theorem impl_own_string_lo (n : Nat) : LoopsOk (T := T) (Phi n 31) (impl_own_string_Ls n) impl_own_string_ann n impl_own_string_code := loopsOk_all (cs := []) (by kernel_rfl) trivial
theorem impl_own_string_ok (n : Nat) : EntOk Try.prog (ents n) (impl_own_string_ent n) := by
  intro hs ar y hg h
  replace h : impl_own_string_D n ar = some y := h
  unfold impl_own_string_D at h
  replace h := ocons_some h
  obtain ⟨a0, r0, rfl, h⟩ := h
  replace h := onil_some h
  obtain ⟨rfl, h⟩ := h
  obtain ⟨l0, qh0, h⟩ := obind_some h
  rw [argV_eq ok qh0]
  exact call_of (phiE_nat _ _) hs ok mixed Try.func141 (c := impl_own_string_code) (by kernel_rfl) (impl_own_string_lo n) (by kernel_rfl) (by kernel_rfl) (by kernel_rfl) impl_own_string_de ((impl_own_string_tie n l0).trans h)
noncomputable def impl_own_string_f142_code : Code := match Try.f142.body with | some c => c | none => .skip
def impl_own_string_f142_ann : Ann := fun id => none
def impl_own_string_f142_Ls (n : Nat) : Nat → Option (LSpec T) := fun id => none
theorem impl_own_string_f142_tie (n : Nat) (l0 : List (List ByteArray)) : evF (T := T) (Phi n 32) (impl_own_string_f142_Ls n) impl_own_string_f142_ann n Try.f142 (sg 142) [vA T 98 l0] impl_own_string_f142_dec = impl_own_string_f142 n l0 := by kernel_rfl
theorem impl_own_string_f142_lo (n : Nat) : LoopsOk (T := T) (Phi n 32) (impl_own_string_f142_Ls n) impl_own_string_f142_ann n impl_own_string_f142_code := loopsOk_all (cs := []) (by kernel_rfl) trivial
theorem impl_own_string_f142_ok (n : Nat) : EntOk Try.prog (ents n) (impl_own_string_f142_ent n) := by
  intro hs ar y hg h
  replace h : impl_own_string_f142_D n ar = some y := h
  unfold impl_own_string_f142_D at h
  replace h := ocons_some h
  obtain ⟨a0, r0, rfl, h⟩ := h
  replace h := onil_some h
  obtain ⟨rfl, h⟩ := h
  obtain ⟨l0, qh0, h⟩ := obind_some h
  rw [argV_eq ok qh0]
  exact call_of (phiE_nat _ _) hs ok mixed Try.func142 (c := impl_own_string_f142_code) (by kernel_rfl) (impl_own_string_f142_lo n) (by kernel_rfl) (by kernel_rfl) (by kernel_rfl) impl_own_string_f142_de ((impl_own_string_f142_tie n l0).trans h)
noncomputable def impl_own_impl_Seg_code : Code := match Try.f143.body with | some c => c | none => .skip
def impl_own_impl_Seg_ann : Ann := fun id => none
def impl_own_impl_Seg_Ls (n : Nat) : Nat → Option (LSpec T) := fun id => none
theorem impl_own_impl_Seg_tie (n : Nat) (l0 : List SSeg) : evF (T := T) (Phi n 33) (impl_own_impl_Seg_Ls n) impl_own_impl_Seg_ann n Try.f143 (sg 143) [vA T 89 l0] impl_own_impl_Seg_dec = impl_own_impl_Seg n l0 := by kernel_rfl
theorem impl_own_impl_Seg_lo (n : Nat) : LoopsOk (T := T) (Phi n 33) (impl_own_impl_Seg_Ls n) impl_own_impl_Seg_ann n impl_own_impl_Seg_code := loopsOk_all (cs := []) (by kernel_rfl) trivial
theorem impl_own_impl_Seg_ok (n : Nat) : EntOk Try.prog (ents n) (impl_own_impl_Seg_ent n) := by
  intro hs ar y hg h
  replace h : impl_own_impl_Seg_D n ar = some y := h
  unfold impl_own_impl_Seg_D at h
  replace h := ocons_some h
  obtain ⟨a0, r0, rfl, h⟩ := h
  replace h := onil_some h
  obtain ⟨rfl, h⟩ := h
  obtain ⟨l0, qh0, h⟩ := obind_some h
  rw [argV_eq ok qh0]
  exact call_of (phiE_nat _ _) hs ok mixed Try.func143 (c := impl_own_impl_Seg_code) (by kernel_rfl) (impl_own_impl_Seg_lo n) (by kernel_rfl) (by kernel_rfl) (by kernel_rfl) impl_own_impl_Seg_de ((impl_own_impl_Seg_tie n l0).trans h)
noncomputable def impl_ReadSegs_code : Code := match Try.f54.body with | some c => c | none => .skip
def impl_ReadSegs_6_sv : List Sv := [.one (.str), .one (.int .i64), .one (.own 3000000 100 false), .one (.int .i64)]
def impl_ReadSegs_6_so : List So := [.arr 100 false]
def impl_ReadSegs_6_emb (c : ByteArray × Int) (x : Int × List SSeg) : EVs T impl_ReadSegs_6_sv × EOs T impl_ReadSegs_6_so := ((c.1, c.2, (), x.1, ()), (x.2, ()))
def impl_ReadSegs_6_prj (y : EVs T impl_ReadSegs_6_sv × EOs T impl_ReadSegs_6_so) : (ByteArray × Int) × (Int × List SSeg) := ((y.1.1, y.1.2.1), (y.1.2.2.2.1, y.2.1))
def impl_ReadSegs_6_b (n : Nat) {R : Type} (K : Ex → Sm.St T → Option R) (c : ByteArray × Int) (x : Int × List SSeg) (J : (Int × List SSeg) → Option R) : Option R :=
  impl_ReadSegs_L6 n (fun (y0 : List SSeg) => K (.exit 0) (stOf (T := T) [6] [3000000] [.one (.own 3000000 100 false)] [.arr 100 false] ((), ()) (y0, ()))) (fun (y0 : Int) (y1 : Int) (y2 : List SSeg) => K .ret (stOf (T := T) [2, 3, 4] [3000001] [.one (.own 3000001 100 false), .one (.int .i64), .one (.int .i64)] [.arr 100 false] ((), y0, y1, ()) (y2, ()))) (fun z0 z1 => J (z0, z1)) c.1 c.2 x.1 x.2
def impl_ReadSegs_6_sp (n : Nat) : LSpec T := mkSpec T ⟨[((.reg 6), 3000000, 100)], [0, 5, 6, 7], [3000000]⟩ impl_ReadSegs_6_sv impl_ReadSegs_6_so (ByteArray × Int) (Int × List SSeg) impl_ReadSegs_6_emb impl_ReadSegs_6_prj (impl_ReadSegs_6_b n)
noncomputable def impl_ReadSegs_6_c : Code := ((loopCodes impl_ReadSegs_code)[0]?).getD .skip
def impl_ReadSegs_16_sv : List Sv := [.one (.str), .one (.int .i64), .one (.own 3000000 100 false), .one (.int .i64), .one (.ptr 64 0 0), .one (.ptr 72 0 0), .one (.fn 138 [64, 72]), .one (.bool)]
def impl_ReadSegs_16_so : List So := [.arr 100 false, .var [.str, .own 3000002 82 false], .arr 82 false, .var [.own 3000003 5 false], .arr 5 false]
def impl_ReadSegs_16_emb (c : ByteArray × Int × List SSeg) (x : Int × Bool × ByteArray × List (List ByteArray) × List Int) : EVs T impl_ReadSegs_16_sv × EOs T impl_ReadSegs_16_so := ((c.1, c.2.1, (), x.1, (), (), (), x.2.1, ()), (c.2.2, (x.2.2.1, (), ()), x.2.2.2.1, ((), ()), x.2.2.2.2, ()))
def impl_ReadSegs_16_prj (y : EVs T impl_ReadSegs_16_sv × EOs T impl_ReadSegs_16_so) : (ByteArray × Int × List SSeg) × (Int × Bool × ByteArray × List (List ByteArray) × List Int) := ((y.1.1, y.1.2.1, y.2.1), (y.1.2.2.2.1, y.1.2.2.2.2.2.2.2.1, y.2.2.1.1, y.2.2.2.1, y.2.2.2.2.2.1))
def impl_ReadSegs_16_b (n : Nat) {R : Type} (K : Ex → Sm.St T → Option R) (c : ByteArray × Int × List SSeg) (x : Int × Bool × ByteArray × List (List ByteArray) × List Int) (J : (Int × Bool × ByteArray × List (List ByteArray) × List Int) → Option R) : Option R :=
  impl_ReadSegs_L16 n (fun (y2 : Int) (y4 : ByteArray) (y5 : List (List ByteArray)) => K (.exit 2) (stOf (T := T) [0, 5, 6, 7, 8] [3000000, 64, 3000002] [.one (.str), .one (.int .i64), .one (.own 3000000 100 false), .one (.int .i64), .one (.ptr 64 0 0)] [.arr 100 false, .var [.str, .own 3000002 82 false], .arr 82 false] (c.1, c.2.1, (), y2, (), ()) (c.2.2, (y4, (), ()), y5, ()))) (fun (y0 : Int) (y1 : Int) (y2 : List SSeg) => K .ret (stOf (T := T) [2, 3, 4] [3000001] [.one (.own 3000001 100 false), .one (.int .i64), .one (.int .i64)] [.arr 100 false] ((), y0, y1, ()) (y2, ()))) (fun z0 z1 z2 z3 z4 => J (z0, z1, z2, z3, z4)) c.1 c.2.1 x.1 x.2.1 c.2.2 x.2.2.1 x.2.2.2.1 x.2.2.2.2
def impl_ReadSegs_16_sp (n : Nat) : LSpec T := mkSpec T ⟨[((.reg 6), 3000000, 100), ((.cell 64 1), 3000002, 82), ((.cell 72 0), 3000003, 5)], [0, 5, 6, 7, 8, 9, 10, 11], [3000000, 64, 3000002, 72, 3000003]⟩ impl_ReadSegs_16_sv impl_ReadSegs_16_so (ByteArray × Int × List SSeg) (Int × Bool × ByteArray × List (List ByteArray) × List Int) impl_ReadSegs_16_emb impl_ReadSegs_16_prj (impl_ReadSegs_16_b n)
noncomputable def impl_ReadSegs_16_c : Code := ((loopCodes impl_ReadSegs_code)[1]?).getD .skip
def impl_ReadSegs_41_sv : List Sv := [.one (.str), .one (.int .i64), .one (.own 3000000 100 false), .one (.int .i64), .one (.ptr 64 0 0), .one (.int .i64), .one (.int .i64)]
def impl_ReadSegs_41_so : List So := [.arr 100 false, .var [.str, .own 3000002 82 false], .arr 82 false]
def impl_ReadSegs_41_emb (c : ByteArray × Int × Int × Int × List SSeg × ByteArray) (x : Int × List (List ByteArray)) : EVs T impl_ReadSegs_41_sv × EOs T impl_ReadSegs_41_so := ((c.1, c.2.1, (), c.2.2.1, (), c.2.2.2.1, x.1, ()), (c.2.2.2.2.1, (c.2.2.2.2.2, (), ()), x.2, ()))
def impl_ReadSegs_41_prj (y : EVs T impl_ReadSegs_41_sv × EOs T impl_ReadSegs_41_so) : (ByteArray × Int × Int × Int × List SSeg × ByteArray) × (Int × List (List ByteArray)) := ((y.1.1, y.1.2.1, y.1.2.2.2.1, y.1.2.2.2.2.2.1, y.2.1, y.2.2.1.1), (y.1.2.2.2.2.2.2.1, y.2.2.2.1))
def impl_ReadSegs_41_b (n : Nat) {R : Type} (K : Ex → Sm.St T → Option R) (c : ByteArray × Int × Int × Int × List SSeg × ByteArray) (x : Int × List (List ByteArray)) (J : (Int × List (List ByteArray)) → Option R) : Option R :=
  impl_ReadSegs_L41 n (fun (y5 : List (List ByteArray)) => K (.exit 5) (stOf (T := T) [0, 5, 6, 7, 8] [3000000, 64, 3000002] [.one (.str), .one (.int .i64), .one (.own 3000000 100 false), .one (.int .i64), .one (.ptr 64 0 0)] [.arr 100 false, .var [.str, .own 3000002 82 false], .arr 82 false] (c.1, c.2.1, (), c.2.2.1, (), ()) (c.2.2.2.2.1, (c.2.2.2.2.2, (), ()), y5, ()))) (fun z0 z1 => J (z0, z1)) c.1 c.2.1 c.2.2.1 c.2.2.2.1 x.1 c.2.2.2.2.1 c.2.2.2.2.2 x.2
def impl_ReadSegs_41_sp (n : Nat) : LSpec T := mkSpec T ⟨[((.reg 6), 3000000, 100), ((.cell 64 1), 3000002, 82)], [0, 5, 6, 7, 8, 162, 163], [3000000, 64, 3000002]⟩ impl_ReadSegs_41_sv impl_ReadSegs_41_so (ByteArray × Int × Int × Int × List SSeg × ByteArray) (Int × List (List ByteArray)) impl_ReadSegs_41_emb impl_ReadSegs_41_prj (impl_ReadSegs_41_b n)
noncomputable def impl_ReadSegs_41_c : Code := ((loopCodes impl_ReadSegs_code)[2]?).getD .skip
def impl_ReadSegs_ann : Ann := fun id => bif Nat.beq id 3000006 then some ⟨[((.reg 6), 3000000, 100)], [6], [3000000]⟩ else bif Nat.beq id 2000006 then some ⟨[((.reg 2), 3000001, 100)], [2, 3, 4], [3000001]⟩ else bif Nat.beq id 5000016 then some ⟨[((.reg 6), 3000000, 100), ((.cell 64 1), 3000002, 82)], [0, 5, 6, 7, 8], [3000000, 64, 3000002]⟩ else bif Nat.beq id 2000016 then some ⟨[((.reg 2), 3000001, 100)], [2, 3, 4], [3000001]⟩ else bif Nat.beq id 8000041 then some ⟨[((.reg 6), 3000000, 100), ((.cell 64 1), 3000002, 82)], [0, 5, 6, 7, 8], [3000000, 64, 3000002]⟩ else none
def impl_ReadSegs_Ls (n : Nat) : Nat → Option (LSpec T) := fun id => bif Nat.beq id 6 then some (impl_ReadSegs_6_sp n) else bif Nat.beq id 16 then some (impl_ReadSegs_16_sp n) else bif Nat.beq id 41 then some (impl_ReadSegs_41_sp n) else none
theorem impl_ReadSegs_6_le (n : Nat) : LoopEq (T := T) (Phi n 34) (impl_ReadSegs_Ls n) impl_ReadSegs_ann n impl_ReadSegs_6_c (impl_ReadSegs_6_sp n) := ⟨mkSpec_dec (fun y => rfl), fun c x => by kernel_rfl, fun K J c x => by kernel_rfl⟩
theorem impl_ReadSegs_16_le (n : Nat) : LoopEq (T := T) (Phi n 34) (impl_ReadSegs_Ls n) impl_ReadSegs_ann n impl_ReadSegs_16_c (impl_ReadSegs_16_sp n) := ⟨mkSpec_dec (fun y => rfl), fun c x => by kernel_rfl, fun K J c x => by kernel_rfl⟩
theorem impl_ReadSegs_41_le (n : Nat) : LoopEq (T := T) (Phi n 34) (impl_ReadSegs_Ls n) impl_ReadSegs_ann n impl_ReadSegs_41_c (impl_ReadSegs_41_sp n) := ⟨mkSpec_dec (fun y => rfl), fun c x => by kernel_rfl, fun K J c x => by kernel_rfl⟩
theorem impl_ReadSegs_tie (n : Nat) (text0 : ByteArray) : evF (T := T) (Phi n 34) (impl_ReadSegs_Ls n) impl_ReadSegs_ann n Try.f54 (sg 54) [vA T 9 text0] impl_ReadSegs_dec = impl_ReadSegs n text0 := by kernel_rfl
theorem impl_ReadSegs_lo (n : Nat) : LoopsOk (T := T) (Phi n 34) (impl_ReadSegs_Ls n) impl_ReadSegs_ann n impl_ReadSegs_code := loopsOk_all (cs := [impl_ReadSegs_6_c, impl_ReadSegs_16_c, impl_ReadSegs_41_c]) (by kernel_rfl) ⟨⟨_, by kernel_rfl, impl_ReadSegs_6_le n⟩, ⟨_, by kernel_rfl, impl_ReadSegs_16_le n⟩, ⟨_, by kernel_rfl, impl_ReadSegs_41_le n⟩, trivial⟩
theorem impl_ReadSegs_ok (n : Nat) : EntOk Try.prog (ents n) (impl_ReadSegs_ent n) := by
  intro hs ar y hg h
  replace h : impl_ReadSegs_D n ar = some y := h
  unfold impl_ReadSegs_D at h
  replace h := ocons_some h
  obtain ⟨a0, r0, rfl, h⟩ := h
  replace h := onil_some h
  obtain ⟨rfl, h⟩ := h
  obtain ⟨text0, qh0, h⟩ := obind_some h
  rw [argV_eq ok qh0]
  exact call_of (phiE_nat _ _) hs ok mixed Try.func54 (c := impl_ReadSegs_code) (by kernel_rfl) (impl_ReadSegs_lo n) (by kernel_rfl) (by kernel_rfl) (by kernel_rfl) impl_ReadSegs_de ((impl_ReadSegs_tie n text0).trans h)
noncomputable def spec_DrawReadSegs_code : Code := match Try.f62.body with | some c => c | none => .skip
def spec_DrawReadSegs_ann : Ann := fun id => none
def spec_DrawReadSegs_Ls (n : Nat) : Nat → Option (LSpec T) := fun id => none
theorem spec_DrawReadSegs_tie (n : Nat) (code0 : List Int) : evF (T := T) (Phi n 35) (spec_DrawReadSegs_Ls n) spec_DrawReadSegs_ann n Try.f62 (sg 62) [vA T 34 code0] spec_DrawReadSegs_dec = spec_DrawReadSegs n code0 := by kernel_rfl
theorem spec_DrawReadSegs_lo (n : Nat) : LoopsOk (T := T) (Phi n 35) (spec_DrawReadSegs_Ls n) spec_DrawReadSegs_ann n spec_DrawReadSegs_code := loopsOk_all (cs := []) (by kernel_rfl) trivial
theorem spec_DrawReadSegs_ok (n : Nat) : EntOk Try.prog (ents n) (spec_DrawReadSegs_ent n) := by
  intro hs ar y hg h
  replace h : spec_DrawReadSegs_D n ar = some y := h
  unfold spec_DrawReadSegs_D at h
  replace h := ocons_some h
  obtain ⟨a0, r0, rfl, h⟩ := h
  replace h := onil_some h
  obtain ⟨rfl, h⟩ := h
  obtain ⟨code0, qh0, h⟩ := obind_some h
  rw [argV_eq ok qh0]
  exact call_of (phiE_nat _ _) hs ok mixed Try.func62 (c := spec_DrawReadSegs_code) (by kernel_rfl) (spec_DrawReadSegs_lo n) (by kernel_rfl) (by kernel_rfl) (by kernel_rfl) spec_DrawReadSegs_de ((spec_DrawReadSegs_tie n code0).trans h)
noncomputable def laws_FnSegments_code : Code := match Try.f10.body with | some c => c | none => .skip
def laws_FnSegments_12_sv : List Sv := [.one (.arr 5), .one (.arr 100), .one (.arr 100), .one (.int .i64)]
def laws_FnSegments_12_so : List So := []
def laws_FnSegments_12_emb (c : List Int × List SSeg × List SSeg) (x : Int) : EVs T laws_FnSegments_12_sv × EOs T laws_FnSegments_12_so := ((c.1, c.2.1, c.2.2, x, ()), ())
def laws_FnSegments_12_prj (y : EVs T laws_FnSegments_12_sv × EOs T laws_FnSegments_12_so) : (List Int × List SSeg × List SSeg) × Int := ((y.1.1, y.1.2.1, y.1.2.2.1), (y.1.2.2.2.1))
def laws_FnSegments_12_b (n : Nat) {R : Type} (K : Ex → Sm.St T → Option R) (c : List Int × List SSeg × List SSeg) (x : Int) (J : Int → Option R) : Option R :=
  laws_FnSegments_L12 n (K (.exit 0) (stOf (T := T) [0] [] [.one (.arr 5)] [] (c.1, ()) ())) (fun (y0 : Bool) => K .ret (stOf (T := T) [2] [] [.one (.bool)] [] (y0, ()) ())) J c.1 c.2.1 c.2.2 x
def laws_FnSegments_12_sp (n : Nat) : LSpec T := mkSpec T ⟨[], [0, 3, 6, 9], []⟩ laws_FnSegments_12_sv laws_FnSegments_12_so (List Int × List SSeg × List SSeg) (Int) laws_FnSegments_12_emb laws_FnSegments_12_prj (laws_FnSegments_12_b n)
noncomputable def laws_FnSegments_12_c : Code := ((loopCodes laws_FnSegments_code)[0]?).getD .skip
def laws_FnSegments_17_sv : List Sv := [.one (.arr 5), .one (.arr 100), .one (.arr 100), .one (.int .i64), .one (.int .i64)]
def laws_FnSegments_17_so : List So := []
def laws_FnSegments_17_emb (c : List Int × List SSeg × List SSeg × Int) (x : Int) : EVs T laws_FnSegments_17_sv × EOs T laws_FnSegments_17_so := ((c.1, c.2.1, c.2.2.1, c.2.2.2, x, ()), ())
def laws_FnSegments_17_prj (y : EVs T laws_FnSegments_17_sv × EOs T laws_FnSegments_17_so) : (List Int × List SSeg × List SSeg × Int) × Int := ((y.1.1, y.1.2.1, y.1.2.2.1, y.1.2.2.2.1), (y.1.2.2.2.2.1))
def laws_FnSegments_17_b (n : Nat) {R : Type} (K : Ex → Sm.St T → Option R) (c : List Int × List SSeg × List SSeg × Int) (x : Int) (J : Int → Option R) : Option R :=
  laws_FnSegments_L17 n (K (.exit 2) (stOf (T := T) [0, 3, 6, 9] [] [.one (.arr 5), .one (.arr 100), .one (.arr 100), .one (.int .i64)] [] (c.1, c.2.1, c.2.2.1, c.2.2.2, ()) ())) (fun (y0 : Bool) => K .ret (stOf (T := T) [2] [] [.one (.bool)] [] (y0, ()) ())) J c.1 c.2.1 c.2.2.1 c.2.2.2 x
def laws_FnSegments_17_sp (n : Nat) : LSpec T := mkSpec T ⟨[], [0, 3, 6, 9, 10], []⟩ laws_FnSegments_17_sv laws_FnSegments_17_so (List Int × List SSeg × List SSeg × Int) (Int) laws_FnSegments_17_emb laws_FnSegments_17_prj (laws_FnSegments_17_b n)
noncomputable def laws_FnSegments_17_c : Code := ((loopCodes laws_FnSegments_code)[1]?).getD .skip
def laws_FnSegments_22_sv : List Sv := [.one (.arr 5), .one (.arr 100), .one (.arr 100), .one (.int .i64), .one (.int .i64), .one (.int .i64)]
def laws_FnSegments_22_so : List So := []
def laws_FnSegments_22_emb (c : List Int × List SSeg × List SSeg × Int × Int) (x : Int) : EVs T laws_FnSegments_22_sv × EOs T laws_FnSegments_22_so := ((c.1, c.2.1, c.2.2.1, c.2.2.2.1, c.2.2.2.2, x, ()), ())
def laws_FnSegments_22_prj (y : EVs T laws_FnSegments_22_sv × EOs T laws_FnSegments_22_so) : (List Int × List SSeg × List SSeg × Int × Int) × Int := ((y.1.1, y.1.2.1, y.1.2.2.1, y.1.2.2.2.1, y.1.2.2.2.2.1), (y.1.2.2.2.2.2.1))
def laws_FnSegments_22_b (n : Nat) {R : Type} (K : Ex → Sm.St T → Option R) (c : List Int × List SSeg × List SSeg × Int × Int) (x : Int) (J : Int → Option R) : Option R :=
  laws_FnSegments_L22 n (K (.exit 4) (stOf (T := T) [0, 3, 6, 9, 10] [] [.one (.arr 5), .one (.arr 100), .one (.arr 100), .one (.int .i64), .one (.int .i64)] [] (c.1, c.2.1, c.2.2.1, c.2.2.2.1, c.2.2.2.2, ()) ())) (fun (y0 : Bool) => K .ret (stOf (T := T) [2] [] [.one (.bool)] [] (y0, ()) ())) J c.1 c.2.1 c.2.2.1 c.2.2.2.1 c.2.2.2.2 x
def laws_FnSegments_22_sp (n : Nat) : LSpec T := mkSpec T ⟨[], [0, 3, 6, 9, 10, 11], []⟩ laws_FnSegments_22_sv laws_FnSegments_22_so (List Int × List SSeg × List SSeg × Int × Int) (Int) laws_FnSegments_22_emb laws_FnSegments_22_prj (laws_FnSegments_22_b n)
noncomputable def laws_FnSegments_22_c : Code := ((loopCodes laws_FnSegments_code)[2]?).getD .skip
def laws_FnSegments_ann : Ann := fun id => bif Nat.beq id 3000012 then some ⟨[], [0], []⟩ else bif Nat.beq id 2000012 then some ⟨[], [2], []⟩ else bif Nat.beq id 5000017 then some ⟨[], [0, 3, 6, 9], []⟩ else bif Nat.beq id 2000017 then some ⟨[], [2], []⟩ else bif Nat.beq id 7000022 then some ⟨[], [0, 3, 6, 9, 10], []⟩ else bif Nat.beq id 2000022 then some ⟨[], [2], []⟩ else bif Nat.beq id 4 then some ⟨[((.reg 3), 100, 999999)], [0, 3, 20, 21], []⟩ else bif Nat.beq id 9 then some ⟨[((.reg 6), 100, 999999)], [0, 3, 4, 5, 6, 7, 8, 37, 38, 39, 40, 41, 42, 43], []⟩ else none
def laws_FnSegments_Ls (n : Nat) : Nat → Option (LSpec T) := fun id => bif Nat.beq id 12 then some (laws_FnSegments_12_sp n) else bif Nat.beq id 17 then some (laws_FnSegments_17_sp n) else bif Nat.beq id 22 then some (laws_FnSegments_22_sp n) else none
theorem laws_FnSegments_12_le (n : Nat) : LoopEq (T := T) (Phi n 36) (laws_FnSegments_Ls n) laws_FnSegments_ann n laws_FnSegments_12_c (laws_FnSegments_12_sp n) := ⟨mkSpec_dec (fun y => rfl), fun c x => by kernel_rfl, fun K J c x => by kernel_rfl⟩
theorem laws_FnSegments_17_le (n : Nat) : LoopEq (T := T) (Phi n 36) (laws_FnSegments_Ls n) laws_FnSegments_ann n laws_FnSegments_17_c (laws_FnSegments_17_sp n) := ⟨mkSpec_dec (fun y => rfl), fun c x => by kernel_rfl, fun K J c x => by kernel_rfl⟩
theorem laws_FnSegments_22_le (n : Nat) : LoopEq (T := T) (Phi n 36) (laws_FnSegments_Ls n) laws_FnSegments_ann n laws_FnSegments_22_c (laws_FnSegments_22_sp n) := ⟨mkSpec_dec (fun y => rfl), fun c x => by kernel_rfl, fun K J c x => by kernel_rfl⟩
theorem laws_FnSegments_tie (n : Nat) (code0 : List Int) : evF (T := T) (Phi n 36) (laws_FnSegments_Ls n) laws_FnSegments_ann n Try.f10 (sg 10) [vA T 34 code0] laws_FnSegments_dec = laws_FnSegments n code0 := by kernel_rfl
theorem laws_FnSegments_lo (n : Nat) : LoopsOk (T := T) (Phi n 36) (laws_FnSegments_Ls n) laws_FnSegments_ann n laws_FnSegments_code := loopsOk_all (cs := [laws_FnSegments_12_c, laws_FnSegments_17_c, laws_FnSegments_22_c]) (by kernel_rfl) ⟨⟨_, by kernel_rfl, laws_FnSegments_12_le n⟩, ⟨_, by kernel_rfl, laws_FnSegments_17_le n⟩, ⟨_, by kernel_rfl, laws_FnSegments_22_le n⟩, trivial⟩
theorem laws_FnSegments_ok (n : Nat) : EntOk Try.prog (ents n) (laws_FnSegments_ent n) := by
  intro hs ar y hg h
  replace h : laws_FnSegments_D n ar = some y := h
  unfold laws_FnSegments_D at h
  replace h := ocons_some h
  obtain ⟨a0, r0, rfl, h⟩ := h
  replace h := onil_some h
  obtain ⟨rfl, h⟩ := h
  obtain ⟨code0, qh0, h⟩ := obind_some h
  rw [argV_eq ok qh0]
  exact call_of (phiE_nat _ _) hs ok mixed Try.func10 (c := laws_FnSegments_code) (by kernel_rfl) (laws_FnSegments_lo n) (by kernel_rfl) (by kernel_rfl) (by kernel_rfl) laws_FnSegments_de ((laws_FnSegments_tie n code0).trans h)
theorem entsOk (n : Nat) : EntsOk Try.prog (ents n) (ents n) := ⟨laws_big_ok n, spec_l1New_ok n, spec_l1Byte_ok n, spec_l1Below_ok n, spec_l1Pick_ok n, spec_l1Once_ok n, spec_l21DrawText_ok n, spec_l1PickInt_ok n, spec_l21DrawSegs_ok n, spec_DrawWriteSegs_ok n, impl_capital_ok n, impl_in_ok n, impl_plain_ok n, impl_ediText_ok n, impl_segRight_1_ok n, slices_IndexFunc_string_string__impl_segRight_1_ok n, slices_ContainsFunc_string_string__impl_segRight_1_ok n, impl_segRight_ok n, impl_SegsOk_1_ok n, sIndex_SegsOk_1_ok n, sContains_SegsOk_1_ok n, impl_written_ok n, impl_SegsOk_ok n, impl_WriteSegs_ok n, spec_l1In_ok n, spec_l21Seg_ok n, spec_l21Mark_ok n, spec_l21Write_ok n, spec_SegsOk_ok n, impl_ReadSegs_1_ok n, impl_marked_ok n, impl_own_string_ok n, impl_own_string_f142_ok n, impl_own_impl_Seg_ok n, impl_ReadSegs_ok n, spec_DrawReadSegs_ok n, laws_FnSegments_ok n, trivial⟩
theorem sem (n i : Nat) : SemOk (Phi n i) (CallOk Try.prog T) := phiE_ok (entsOk n) i
end Go.Sm.E10
