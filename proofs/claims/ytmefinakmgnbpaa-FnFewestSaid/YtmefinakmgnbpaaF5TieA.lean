import Derived.Test.YtmefinakmgnbpaaF5Tb
import Derived.Test.YtmefinakmgnbpaaEngD
import Derived.Test.YtmefinakmgnbpaaEngE
import Derived.Test.YtmefinakmgnbpaaLay
import Derived.KernelRfl
/- Each function's code computes what the plain function computes. Part 1. -/
set_option linter.unusedSimpArgs false
set_option linter.deprecated false
set_option linter.unusedSectionVars false
set_option linter.unusedVariables false
set_option maxRecDepth 100000
open Go Go.Proofs
noncomputable section
namespace Go.Sm.F5
/-- By recursors, and of a greater height than all of the functions: the kernel takes these apart first. -/
def obind {α β : Type} (o : Option α) (f : α → Option β) : Option β := let _ := @laws_FnFewest; Option.rec (motive := fun _ => Option β) none (fun a => f a) o
theorem obind_some {α β : Type} {o : Option α} {f : α → Option β} {y : β} (h : obind o f = some y) : ∃ a, o = some a ∧ f a = some y := by
  cases o with
  | none => cases h
  | some a => exact ⟨a, rfl, h⟩
def ocons {β : Type} (l : List (A T)) (f : A T → List (A T) → Option β) : Option β := let _ := @laws_FnFewest; List.rec (motive := fun _ => Option β) none (fun a r _ => f a r) l
theorem ocons_some {β : Type} {l : List (A T)} {f : A T → List (A T) → Option β} {y : β} (h : ocons l f = some y) : ∃ a r, l = a :: r ∧ f a r = some y := by
  cases l with
  | nil => cases h
  | cons a r => exact ⟨a, r, rfl, h⟩
def onil {β : Type} (l : List (A T)) (x : Option β) : Option β := let _ := @laws_FnFewest; List.rec (motive := fun _ => Option β) x (fun _ _ _ => none) l
theorem onil_some {β : Type} {l : List (A T)} {x : Option β} {y : β} (h : onil l x = some y) : l = [] ∧ x = some y := by
  cases l with
  | nil => exact ⟨rfl, h⟩
  | cons a r => cases h
def laws_big_dec (res : Res T) : Option Bool := match res.rets, res.outs with
  | [a0], [] => (retV (T := T) 4 a0).bind fun r0 => some (r0)
  | _, _ => none
def laws_big_enc (y : Bool) : Res T := ⟨[vR T 4 y], []⟩
theorem laws_big_de (res : Res T) (y : Bool) (h : laws_big_dec res = some y) : res = laws_big_enc y := by
  obtain ⟨rets, outs⟩ := res
  unfold laws_big_dec at h
  dsimp only at h
  split at h
  · obtain ⟨r0, h0, h⟩ := Option.bind_eq_some_iff.1 h
    cases h
    rw [retV_eq ok h0]
    rfl
  · cases h
def spec_l1New_dec (res : Res T) : Option Sl1Cur := match res.rets, res.outs with
  | [a0], [] => (retP (T := T) 120 a0).bind fun r0 => some (r0)
  | _, _ => none
def spec_l1New_enc (y : Sl1Cur) : Res T := ⟨[.ptr 120 y], []⟩
theorem spec_l1New_de (res : Res T) (y : Sl1Cur) (h : spec_l1New_dec res = some y) : res = spec_l1New_enc y := by
  obtain ⟨rets, outs⟩ := res
  unfold spec_l1New_dec at h
  dsimp only at h
  split at h
  · obtain ⟨r0, h0, h⟩ := Option.bind_eq_some_iff.1 h
    cases h
    rw [retP_eq h0]
    rfl
  · cases h
def spec_l1Byte_dec (res : Res T) : Option (Int × Sl1Cur) := match res.rets, res.outs with
  | [a0], [b0] => (retV (T := T) 3 a0).bind fun r0 => (outV (T := T) 120 b0).bind fun r1 => some (r0, r1)
  | _, _ => none
def spec_l1Byte_enc (y : Int × Sl1Cur) : Res T := ⟨[vR T 3 y.1], [.var 120 y.2]⟩
theorem spec_l1Byte_de (res : Res T) (y : Int × Sl1Cur) (h : spec_l1Byte_dec res = some y) : res = spec_l1Byte_enc y := by
  obtain ⟨rets, outs⟩ := res
  unfold spec_l1Byte_dec at h
  dsimp only at h
  split at h
  · obtain ⟨r0, h0, h⟩ := Option.bind_eq_some_iff.1 h
    obtain ⟨r1, h1, h⟩ := Option.bind_eq_some_iff.1 h
    cases h
    rw [retV_eq ok h0, outV_eq h1]
    rfl
  · cases h
def spec_l1Below_dec (res : Res T) : Option (Int × Sl1Cur) := match res.rets, res.outs with
  | [a0], [b0] => (retV (T := T) 3 a0).bind fun r0 => (outV (T := T) 120 b0).bind fun r1 => some (r0, r1)
  | _, _ => none
def spec_l1Below_enc (y : Int × Sl1Cur) : Res T := ⟨[vR T 3 y.1], [.var 120 y.2]⟩
theorem spec_l1Below_de (res : Res T) (y : Int × Sl1Cur) (h : spec_l1Below_dec res = some y) : res = spec_l1Below_enc y := by
  obtain ⟨rets, outs⟩ := res
  unfold spec_l1Below_dec at h
  dsimp only at h
  split at h
  · obtain ⟨r0, h0, h⟩ := Option.bind_eq_some_iff.1 h
    obtain ⟨r1, h1, h⟩ := Option.bind_eq_some_iff.1 h
    cases h
    rw [retV_eq ok h0, outV_eq h1]
    rfl
  · cases h
def spec_l1PickInt_dec (res : Res T) : Option (Int × Sl1Cur) := match res.rets, res.outs with
  | [a0], [b0] => (retV (T := T) 3 a0).bind fun r0 => (outV (T := T) 120 b0).bind fun r1 => some (r0, r1)
  | _, _ => none
def spec_l1PickInt_enc (y : Int × Sl1Cur) : Res T := ⟨[vR T 3 y.1], [.var 120 y.2]⟩
theorem spec_l1PickInt_de (res : Res T) (y : Int × Sl1Cur) (h : spec_l1PickInt_dec res = some y) : res = spec_l1PickInt_enc y := by
  obtain ⟨rets, outs⟩ := res
  unfold spec_l1PickInt_dec at h
  dsimp only at h
  split at h
  · obtain ⟨r0, h0, h⟩ := Option.bind_eq_some_iff.1 h
    obtain ⟨r1, h1, h⟩ := Option.bind_eq_some_iff.1 h
    cases h
    rw [retV_eq ok h0, outV_eq h1]
    rfl
  · cases h
def spec_l12DrawBays_dec (res : Res T) : Option (List SHatch × Sl1Cur) := match res.rets, res.outs with
  | [a0], [b0] => (retV (T := T) 47 a0).bind fun r0 => (outV (T := T) 120 b0).bind fun r1 => some (r0, r1)
  | _, _ => none
def spec_l12DrawBays_enc (y : List SHatch × Sl1Cur) : Res T := ⟨[vR T 47 y.1], [.var 120 y.2]⟩
theorem spec_l12DrawBays_de (res : Res T) (y : List SHatch × Sl1Cur) (h : spec_l12DrawBays_dec res = some y) : res = spec_l12DrawBays_enc y := by
  obtain ⟨rets, outs⟩ := res
  unfold spec_l12DrawBays_dec at h
  dsimp only at h
  split at h
  · obtain ⟨r0, h0, h⟩ := Option.bind_eq_some_iff.1 h
    obtain ⟨r1, h1, h⟩ := Option.bind_eq_some_iff.1 h
    cases h
    rw [retV_eq ok h0, outV_eq h1]
    rfl
  · cases h
def spec_l1In_dec (res : Res T) : Option Bool := match res.rets, res.outs with
  | [a0], [] => (retV (T := T) 4 a0).bind fun r0 => some (r0)
  | _, _ => none
def spec_l1In_enc (y : Bool) : Res T := ⟨[vR T 4 y], []⟩
theorem spec_l1In_de (res : Res T) (y : Bool) (h : spec_l1In_dec res = some y) : res = spec_l1In_enc y := by
  obtain ⟨rets, outs⟩ := res
  unfold spec_l1In_dec at h
  dsimp only at h
  split at h
  · obtain ⟨r0, h0, h⟩ := Option.bind_eq_some_iff.1 h
    cases h
    rw [retV_eq ok h0]
    rfl
  · cases h
def spec_l11Letter_dec (res : Res T) : Option Int := match res.rets, res.outs with
  | [a0], [] => (retV (T := T) 3 a0).bind fun r0 => some (r0)
  | _, _ => none
def spec_l11Letter_enc (y : Int) : Res T := ⟨[vR T 3 y], []⟩
theorem spec_l11Letter_de (res : Res T) (y : Int) (h : spec_l11Letter_dec res = some y) : res = spec_l11Letter_enc y := by
  obtain ⟨rets, outs⟩ := res
  unfold spec_l11Letter_dec at h
  dsimp only at h
  split at h
  · obtain ⟨r0, h0, h⟩ := Option.bind_eq_some_iff.1 h
    cases h
    rw [retV_eq ok h0]
    rfl
  · cases h
def spec_CheckDigit_dec (res : Res T) : Option Int := match res.rets, res.outs with
  | [a0], [] => (retV (T := T) 3 a0).bind fun r0 => some (r0)
  | _, _ => none
def spec_CheckDigit_enc (y : Int) : Res T := ⟨[vR T 3 y], []⟩
theorem spec_CheckDigit_de (res : Res T) (y : Int) (h : spec_CheckDigit_dec res = some y) : res = spec_CheckDigit_enc y := by
  obtain ⟨rets, outs⟩ := res
  unfold spec_CheckDigit_dec at h
  dsimp only at h
  split at h
  · obtain ⟨r0, h0, h⟩ := Option.bind_eq_some_iff.1 h
    cases h
    rw [retV_eq ok h0]
    rfl
  · cases h
def spec_l11DrawName_dec (res : Res T) : Option (ByteArray × Sl1Cur) := match res.rets, res.outs with
  | [a0], [b0] => (retV (T := T) 9 a0).bind fun r0 => (outV (T := T) 120 b0).bind fun r1 => some (r0, r1)
  | _, _ => none
def spec_l11DrawName_enc (y : ByteArray × Sl1Cur) : Res T := ⟨[vR T 9 y.1], [.var 120 y.2]⟩
theorem spec_l11DrawName_de (res : Res T) (y : ByteArray × Sl1Cur) (h : spec_l11DrawName_dec res = some y) : res = spec_l11DrawName_enc y := by
  obtain ⟨rets, outs⟩ := res
  unfold spec_l11DrawName_dec at h
  dsimp only at h
  split at h
  · obtain ⟨r0, h0, h⟩ := Option.bind_eq_some_iff.1 h
    obtain ⟨r1, h1, h⟩ := Option.bind_eq_some_iff.1 h
    cases h
    rw [retV_eq ok h0, outV_eq h1]
    rfl
  · cases h
def spec_l1Once_dec (res : Res T) : Option (Bool × Sl1Cur) := match res.rets, res.outs with
  | [a0], [b0] => (retV (T := T) 4 a0).bind fun r0 => (outV (T := T) 120 b0).bind fun r1 => some (r0, r1)
  | _, _ => none
def spec_l1Once_enc (y : Bool × Sl1Cur) : Res T := ⟨[vR T 4 y.1], [.var 120 y.2]⟩
theorem spec_l1Once_de (res : Res T) (y : Bool × Sl1Cur) (h : spec_l1Once_dec res = some y) : res = spec_l1Once_enc y := by
  obtain ⟨rets, outs⟩ := res
  unfold spec_l1Once_dec at h
  dsimp only at h
  split at h
  · obtain ⟨r0, h0, h⟩ := Option.bind_eq_some_iff.1 h
    obtain ⟨r1, h1, h⟩ := Option.bind_eq_some_iff.1 h
    cases h
    rw [retV_eq ok h0, outV_eq h1]
    rfl
  · cases h
def spec_l11Draw_dec (res : Res T) : Option (SBox × Sl1Cur) := match res.rets, res.outs with
  | [a0], [b0] => (retV (T := T) 63 a0).bind fun r0 => (outV (T := T) 120 b0).bind fun r1 => some (r0, r1)
  | _, _ => none
def spec_l11Draw_enc (y : SBox × Sl1Cur) : Res T := ⟨[vR T 63 y.1], [.var 120 y.2]⟩
theorem spec_l11Draw_de (res : Res T) (y : SBox × Sl1Cur) (h : spec_l11Draw_dec res = some y) : res = spec_l11Draw_enc y := by
  obtain ⟨rets, outs⟩ := res
  unfold spec_l11Draw_dec at h
  dsimp only at h
  split at h
  · obtain ⟨r0, h0, h⟩ := Option.bind_eq_some_iff.1 h
    obtain ⟨r1, h1, h⟩ := Option.bind_eq_some_iff.1 h
    cases h
    rw [retV_eq ok h0, outV_eq h1]
    rfl
  · cases h
def spec_l1Pick_dec (res : Res T) : Option (ByteArray × Sl1Cur) := match res.rets, res.outs with
  | [a0], [b0] => (retV (T := T) 9 a0).bind fun r0 => (outV (T := T) 120 b0).bind fun r1 => some (r0, r1)
  | _, _ => none
def spec_l1Pick_enc (y : ByteArray × Sl1Cur) : Res T := ⟨[vR T 9 y.1], [.var 120 y.2]⟩
theorem spec_l1Pick_de (res : Res T) (y : ByteArray × Sl1Cur) (h : spec_l1Pick_dec res = some y) : res = spec_l1Pick_enc y := by
  obtain ⟨rets, outs⟩ := res
  unfold spec_l1Pick_dec at h
  dsimp only at h
  split at h
  · obtain ⟨r0, h0, h⟩ := Option.bind_eq_some_iff.1 h
    obtain ⟨r1, h1, h⟩ := Option.bind_eq_some_iff.1 h
    cases h
    rw [retV_eq ok h0, outV_eq h1]
    rfl
  · cases h
def spec_l11DrawText_dec (res : Res T) : Option (ByteArray × Sl1Cur) := match res.rets, res.outs with
  | [a0], [b0] => (retV (T := T) 9 a0).bind fun r0 => (outV (T := T) 120 b0).bind fun r1 => some (r0, r1)
  | _, _ => none
def spec_l11DrawText_enc (y : ByteArray × Sl1Cur) : Res T := ⟨[vR T 9 y.1], [.var 120 y.2]⟩
theorem spec_l11DrawText_de (res : Res T) (y : ByteArray × Sl1Cur) (h : spec_l11DrawText_dec res = some y) : res = spec_l11DrawText_enc y := by
  obtain ⟨rets, outs⟩ := res
  unfold spec_l11DrawText_dec at h
  dsimp only at h
  split at h
  · obtain ⟨r0, h0, h⟩ := Option.bind_eq_some_iff.1 h
    obtain ⟨r1, h1, h⟩ := Option.bind_eq_some_iff.1 h
    cases h
    rw [retV_eq ok h0, outV_eq h1]
    rfl
  · cases h
def spec_l11DrawAny_dec (res : Res T) : Option (SBox × Sl1Cur) := match res.rets, res.outs with
  | [a0], [b0] => (retV (T := T) 63 a0).bind fun r0 => (outV (T := T) 120 b0).bind fun r1 => some (r0, r1)
  | _, _ => none
def spec_l11DrawAny_enc (y : SBox × Sl1Cur) : Res T := ⟨[vR T 63 y.1], [.var 120 y.2]⟩
theorem spec_l11DrawAny_de (res : Res T) (y : SBox × Sl1Cur) (h : spec_l11DrawAny_dec res = some y) : res = spec_l11DrawAny_enc y := by
  obtain ⟨rets, outs⟩ := res
  unfold spec_l11DrawAny_dec at h
  dsimp only at h
  split at h
  · obtain ⟨r0, h0, h⟩ := Option.bind_eq_some_iff.1 h
    obtain ⟨r1, h1, h⟩ := Option.bind_eq_some_iff.1 h
    cases h
    rw [retV_eq ok h0, outV_eq h1]
    rfl
  · cases h
def spec_DrawFewest_dec (res : Res T) : Option (List SHatch × List SBox) := match res.rets, res.outs with
  | [a0, a1], [] => (retV (T := T) 47 a0).bind fun r0 => (retV (T := T) 49 a1).bind fun r1 => some (r0, r1)
  | _, _ => none
def spec_DrawFewest_enc (y : List SHatch × List SBox) : Res T := ⟨[vR T 47 y.1, vR T 49 y.2], []⟩
theorem spec_DrawFewest_de (res : Res T) (y : List SHatch × List SBox) (h : spec_DrawFewest_dec res = some y) : res = spec_DrawFewest_enc y := by
  obtain ⟨rets, outs⟩ := res
  unfold spec_DrawFewest_dec at h
  dsimp only at h
  split at h
  · obtain ⟨r0, h0, h⟩ := Option.bind_eq_some_iff.1 h
    obtain ⟨r1, h1, h⟩ := Option.bind_eq_some_iff.1 h
    cases h
    rw [retV_eq ok h0, retV_eq ok h1]
    rfl
  · cases h
def impl_in_dec (res : Res T) : Option Bool := match res.rets, res.outs with
  | [a0], [] => (retV (T := T) 4 a0).bind fun r0 => some (r0)
  | _, _ => none
def impl_in_enc (y : Bool) : Res T := ⟨[vR T 4 y], []⟩
theorem impl_in_de (res : Res T) (y : Bool) (h : impl_in_dec res = some y) : res = impl_in_enc y := by
  obtain ⟨rets, outs⟩ := res
  unfold impl_in_dec at h
  dsimp only at h
  split at h
  · obtain ⟨r0, h0, h⟩ := Option.bind_eq_some_iff.1 h
    cases h
    rw [retV_eq ok h0]
    rfl
  · cases h
def impl_HatchesOk_1_dec (res : Res T) : Option Bool := match res.rets, res.outs with
  | [a0], [] => (retV (T := T) 4 a0).bind fun r0 => some (r0)
  | _, _ => none
def impl_HatchesOk_1_enc (y : Bool) : Res T := ⟨[vR T 4 y], []⟩
theorem impl_HatchesOk_1_de (res : Res T) (y : Bool) (h : impl_HatchesOk_1_dec res = some y) : res = impl_HatchesOk_1_enc y := by
  obtain ⟨rets, outs⟩ := res
  unfold impl_HatchesOk_1_dec at h
  dsimp only at h
  split at h
  · obtain ⟨r0, h0, h⟩ := Option.bind_eq_some_iff.1 h
    cases h
    rw [retV_eq ok h0]
    rfl
  · cases h
def sIndex_HatchesOk_1_dec (res : Res T) : Option Int := match res.rets, res.outs with
  | [a0], [] => (retV (T := T) 3 a0).bind fun r0 => some (r0)
  | _, _ => none
def sIndex_HatchesOk_1_enc (y : Int) : Res T := ⟨[vR T 3 y], []⟩
theorem sIndex_HatchesOk_1_de (res : Res T) (y : Int) (h : sIndex_HatchesOk_1_dec res = some y) : res = sIndex_HatchesOk_1_enc y := by
  obtain ⟨rets, outs⟩ := res
  unfold sIndex_HatchesOk_1_dec at h
  dsimp only at h
  split at h
  · obtain ⟨r0, h0, h⟩ := Option.bind_eq_some_iff.1 h
    cases h
    rw [retV_eq ok h0]
    rfl
  · cases h
def sContains_HatchesOk_1_dec (res : Res T) : Option Bool := match res.rets, res.outs with
  | [a0], [] => (retV (T := T) 4 a0).bind fun r0 => some (r0)
  | _, _ => none
def sContains_HatchesOk_1_enc (y : Bool) : Res T := ⟨[vR T 4 y], []⟩
theorem sContains_HatchesOk_1_de (res : Res T) (y : Bool) (h : sContains_HatchesOk_1_dec res = some y) : res = sContains_HatchesOk_1_enc y := by
  obtain ⟨rets, outs⟩ := res
  unfold sContains_HatchesOk_1_dec at h
  dsimp only at h
  split at h
  · obtain ⟨r0, h0, h⟩ := Option.bind_eq_some_iff.1 h
    cases h
    rw [retV_eq ok h0]
    rfl
  · cases h
def impl_HatchesOk_dec (res : Res T) : Option Bool := match res.rets, res.outs with
  | [a0], [] => (retV (T := T) 4 a0).bind fun r0 => some (r0)
  | _, _ => none
def impl_HatchesOk_enc (y : Bool) : Res T := ⟨[vR T 4 y], []⟩
theorem impl_HatchesOk_de (res : Res T) (y : Bool) (h : impl_HatchesOk_dec res = some y) : res = impl_HatchesOk_enc y := by
  obtain ⟨rets, outs⟩ := res
  unfold impl_HatchesOk_dec at h
  dsimp only at h
  split at h
  · obtain ⟨r0, h0, h⟩ := Option.bind_eq_some_iff.1 h
    cases h
    rw [retV_eq ok h0]
    rfl
  · cases h
def impl_valueOf_dec (res : Res T) : Option Int := match res.rets, res.outs with
  | [a0], [] => (retV (T := T) 3 a0).bind fun r0 => some (r0)
  | _, _ => none
def impl_valueOf_enc (y : Int) : Res T := ⟨[vR T 3 y], []⟩
theorem impl_valueOf_de (res : Res T) (y : Int) (h : impl_valueOf_dec res = some y) : res = impl_valueOf_enc y := by
  obtain ⟨rets, outs⟩ := res
  unfold impl_valueOf_dec at h
  dsimp only at h
  split at h
  · obtain ⟨r0, h0, h⟩ := Option.bind_eq_some_iff.1 h
    cases h
    rw [retV_eq ok h0]
    rfl
  · cases h
def impl_CheckDigit_dec (res : Res T) : Option Int := match res.rets, res.outs with
  | [a0], [] => (retV (T := T) 3 a0).bind fun r0 => some (r0)
  | _, _ => none
def impl_CheckDigit_enc (y : Int) : Res T := ⟨[vR T 3 y], []⟩
theorem impl_CheckDigit_de (res : Res T) (y : Int) (h : impl_CheckDigit_dec res = some y) : res = impl_CheckDigit_enc y := by
  obtain ⟨rets, outs⟩ := res
  unfold impl_CheckDigit_dec at h
  dsimp only at h
  split at h
  · obtain ⟨r0, h0, h⟩ := Option.bind_eq_some_iff.1 h
    cases h
    rw [retV_eq ok h0]
    rfl
  · cases h
def impl_BoxName_dec (res : Res T) : Option Bool := match res.rets, res.outs with
  | [a0], [] => (retV (T := T) 4 a0).bind fun r0 => some (r0)
  | _, _ => none
def impl_BoxName_enc (y : Bool) : Res T := ⟨[vR T 4 y], []⟩
theorem impl_BoxName_de (res : Res T) (y : Bool) (h : impl_BoxName_dec res = some y) : res = impl_BoxName_enc y := by
  obtain ⟨rets, outs⟩ := res
  unfold impl_BoxName_dec at h
  dsimp only at h
  split at h
  · obtain ⟨r0, h0, h⟩ := Option.bind_eq_some_iff.1 h
    cases h
    rw [retV_eq ok h0]
    rfl
  · cases h
def impl_portOk_dec (res : Res T) : Option Bool := match res.rets, res.outs with
  | [a0], [] => (retV (T := T) 4 a0).bind fun r0 => some (r0)
  | _, _ => none
def impl_portOk_enc (y : Bool) : Res T := ⟨[vR T 4 y], []⟩
theorem impl_portOk_de (res : Res T) (y : Bool) (h : impl_portOk_dec res = some y) : res = impl_portOk_enc y := by
  obtain ⟨rets, outs⟩ := res
  unfold impl_portOk_dec at h
  dsimp only at h
  split at h
  · obtain ⟨r0, h0, h⟩ := Option.bind_eq_some_iff.1 h
    cases h
    rw [retV_eq ok h0]
    rfl
  · cases h
def impl_BoxOk_dec (res : Res T) : Option Bool := match res.rets, res.outs with
  | [a0], [] => (retV (T := T) 4 a0).bind fun r0 => some (r0)
  | _, _ => none
def impl_BoxOk_enc (y : Bool) : Res T := ⟨[vR T 4 y], []⟩
theorem impl_BoxOk_de (res : Res T) (y : Bool) (h : impl_BoxOk_dec res = some y) : res = impl_BoxOk_enc y := by
  obtain ⟨rets, outs⟩ := res
  unfold impl_BoxOk_dec at h
  dsimp only at h
  split at h
  · obtain ⟨r0, h0, h⟩ := Option.bind_eq_some_iff.1 h
    cases h
    rw [retV_eq ok h0]
    rfl
  · cases h
def impl_Fewest_1_dec (res : Res T) : Option Bool := match res.rets, res.outs with
  | [a0], [] => (retV (T := T) 4 a0).bind fun r0 => some (r0)
  | _, _ => none
def impl_Fewest_1_enc (y : Bool) : Res T := ⟨[vR T 4 y], []⟩
theorem impl_Fewest_1_de (res : Res T) (y : Bool) (h : impl_Fewest_1_dec res = some y) : res = impl_Fewest_1_enc y := by
  obtain ⟨rets, outs⟩ := res
  unfold impl_Fewest_1_dec at h
  dsimp only at h
  split at h
  · obtain ⟨r0, h0, h⟩ := Option.bind_eq_some_iff.1 h
    cases h
    rw [retV_eq ok h0]
    rfl
  · cases h
def sIndex_Fewest_1_dec (res : Res T) : Option Int := match res.rets, res.outs with
  | [a0], [] => (retV (T := T) 3 a0).bind fun r0 => some (r0)
  | _, _ => none
def sIndex_Fewest_1_enc (y : Int) : Res T := ⟨[vR T 3 y], []⟩
theorem sIndex_Fewest_1_de (res : Res T) (y : Int) (h : sIndex_Fewest_1_dec res = some y) : res = sIndex_Fewest_1_enc y := by
  obtain ⟨rets, outs⟩ := res
  unfold sIndex_Fewest_1_dec at h
  dsimp only at h
  split at h
  · obtain ⟨r0, h0, h⟩ := Option.bind_eq_some_iff.1 h
    cases h
    rw [retV_eq ok h0]
    rfl
  · cases h
def sContains_Fewest_1_dec (res : Res T) : Option Bool := match res.rets, res.outs with
  | [a0], [] => (retV (T := T) 4 a0).bind fun r0 => some (r0)
  | _, _ => none
def sContains_Fewest_1_enc (y : Bool) : Res T := ⟨[vR T 4 y], []⟩
theorem sContains_Fewest_1_de (res : Res T) (y : Bool) (h : sContains_Fewest_1_dec res = some y) : res = sContains_Fewest_1_enc y := by
  obtain ⟨rets, outs⟩ := res
  unfold sContains_Fewest_1_dec at h
  dsimp only at h
  split at h
  · obtain ⟨r0, h0, h⟩ := Option.bind_eq_some_iff.1 h
    cases h
    rw [retV_eq ok h0]
    rfl
  · cases h
def impl_StowCode_1_dec (res : Res T) : Option Bool := match res.rets, res.outs with
  | [a0], [] => (retV (T := T) 4 a0).bind fun r0 => some (r0)
  | _, _ => none
def impl_StowCode_1_enc (y : Bool) : Res T := ⟨[vR T 4 y], []⟩
theorem impl_StowCode_1_de (res : Res T) (y : Bool) (h : impl_StowCode_1_dec res = some y) : res = impl_StowCode_1_enc y := by
  obtain ⟨rets, outs⟩ := res
  unfold impl_StowCode_1_dec at h
  dsimp only at h
  split at h
  · obtain ⟨r0, h0, h⟩ := Option.bind_eq_some_iff.1 h
    cases h
    rw [retV_eq ok h0]
    rfl
  · cases h
def impl_StowCode_2_1_dec (res : Res T) : Option Bool := match res.rets, res.outs with
  | [a0], [] => (retV (T := T) 4 a0).bind fun r0 => some (r0)
  | _, _ => none
def impl_StowCode_2_1_enc (y : Bool) : Res T := ⟨[vR T 4 y], []⟩
theorem impl_StowCode_2_1_de (res : Res T) (y : Bool) (h : impl_StowCode_2_1_dec res = some y) : res = impl_StowCode_2_1_enc y := by
  obtain ⟨rets, outs⟩ := res
  unfold impl_StowCode_2_1_dec at h
  dsimp only at h
  split at h
  · obtain ⟨r0, h0, h⟩ := Option.bind_eq_some_iff.1 h
    cases h
    rw [retV_eq ok h0]
    rfl
  · cases h
def sIndex_StowCode_2_1_dec (res : Res T) : Option Int := match res.rets, res.outs with
  | [a0], [] => (retV (T := T) 3 a0).bind fun r0 => some (r0)
  | _, _ => none
def sIndex_StowCode_2_1_enc (y : Int) : Res T := ⟨[vR T 3 y], []⟩
theorem sIndex_StowCode_2_1_de (res : Res T) (y : Int) (h : sIndex_StowCode_2_1_dec res = some y) : res = sIndex_StowCode_2_1_enc y := by
  obtain ⟨rets, outs⟩ := res
  unfold sIndex_StowCode_2_1_dec at h
  dsimp only at h
  split at h
  · obtain ⟨r0, h0, h⟩ := Option.bind_eq_some_iff.1 h
    cases h
    rw [retV_eq ok h0]
    rfl
  · cases h
def sContains_StowCode_2_1_dec (res : Res T) : Option Bool := match res.rets, res.outs with
  | [a0], [] => (retV (T := T) 4 a0).bind fun r0 => some (r0)
  | _, _ => none
def sContains_StowCode_2_1_enc (y : Bool) : Res T := ⟨[vR T 4 y], []⟩
theorem sContains_StowCode_2_1_de (res : Res T) (y : Bool) (h : sContains_StowCode_2_1_dec res = some y) : res = sContains_StowCode_2_1_enc y := by
  obtain ⟨rets, outs⟩ := res
  unfold sContains_StowCode_2_1_dec at h
  dsimp only at h
  split at h
  · obtain ⟨r0, h0, h⟩ := Option.bind_eq_some_iff.1 h
    cases h
    rw [retV_eq ok h0]
    rfl
  · cases h
def impl_StowCode_2_dec (res : Res T) : Option Bool := match res.rets, res.outs with
  | [a0], [] => (retV (T := T) 4 a0).bind fun r0 => some (r0)
  | _, _ => none
def impl_StowCode_2_enc (y : Bool) : Res T := ⟨[vR T 4 y], []⟩
theorem impl_StowCode_2_de (res : Res T) (y : Bool) (h : impl_StowCode_2_dec res = some y) : res = impl_StowCode_2_enc y := by
  obtain ⟨rets, outs⟩ := res
  unfold impl_StowCode_2_dec at h
  dsimp only at h
  split at h
  · obtain ⟨r0, h0, h⟩ := Option.bind_eq_some_iff.1 h
    cases h
    rw [retV_eq ok h0]
    rfl
  · cases h
def impl_StowCode_3_dec (res : Res T) : Option Bool := match res.rets, res.outs with
  | [a0], [] => (retV (T := T) 4 a0).bind fun r0 => some (r0)
  | _, _ => none
def impl_StowCode_3_enc (y : Bool) : Res T := ⟨[vR T 4 y], []⟩
theorem impl_StowCode_3_de (res : Res T) (y : Bool) (h : impl_StowCode_3_dec res = some y) : res = impl_StowCode_3_enc y := by
  obtain ⟨rets, outs⟩ := res
  unfold impl_StowCode_3_dec at h
  dsimp only at h
  split at h
  · obtain ⟨r0, h0, h⟩ := Option.bind_eq_some_iff.1 h
    cases h
    rw [retV_eq ok h0]
    rfl
  · cases h
def impl_StowCode_4_1_dec (res : Res T) : Option Bool := match res.rets, res.outs with
  | [a0], [] => (retV (T := T) 4 a0).bind fun r0 => some (r0)
  | _, _ => none
def impl_StowCode_4_1_enc (y : Bool) : Res T := ⟨[vR T 4 y], []⟩
theorem impl_StowCode_4_1_de (res : Res T) (y : Bool) (h : impl_StowCode_4_1_dec res = some y) : res = impl_StowCode_4_1_enc y := by
  obtain ⟨rets, outs⟩ := res
  unfold impl_StowCode_4_1_dec at h
  dsimp only at h
  split at h
  · obtain ⟨r0, h0, h⟩ := Option.bind_eq_some_iff.1 h
    cases h
    rw [retV_eq ok h0]
    rfl
  · cases h
def sIndex_StowCode_4_1_dec (res : Res T) : Option Int := match res.rets, res.outs with
  | [a0], [] => (retV (T := T) 3 a0).bind fun r0 => some (r0)
  | _, _ => none
def sIndex_StowCode_4_1_enc (y : Int) : Res T := ⟨[vR T 3 y], []⟩
theorem sIndex_StowCode_4_1_de (res : Res T) (y : Int) (h : sIndex_StowCode_4_1_dec res = some y) : res = sIndex_StowCode_4_1_enc y := by
  obtain ⟨rets, outs⟩ := res
  unfold sIndex_StowCode_4_1_dec at h
  dsimp only at h
  split at h
  · obtain ⟨r0, h0, h⟩ := Option.bind_eq_some_iff.1 h
    cases h
    rw [retV_eq ok h0]
    rfl
  · cases h
def sContains_StowCode_4_1_dec (res : Res T) : Option Bool := match res.rets, res.outs with
  | [a0], [] => (retV (T := T) 4 a0).bind fun r0 => some (r0)
  | _, _ => none
def sContains_StowCode_4_1_enc (y : Bool) : Res T := ⟨[vR T 4 y], []⟩
theorem sContains_StowCode_4_1_de (res : Res T) (y : Bool) (h : sContains_StowCode_4_1_dec res = some y) : res = sContains_StowCode_4_1_enc y := by
  obtain ⟨rets, outs⟩ := res
  unfold sContains_StowCode_4_1_dec at h
  dsimp only at h
  split at h
  · obtain ⟨r0, h0, h⟩ := Option.bind_eq_some_iff.1 h
    cases h
    rw [retV_eq ok h0]
    rfl
  · cases h
def impl_StowCode_4_dec (res : Res T) : Option Bool := match res.rets, res.outs with
  | [a0], [] => (retV (T := T) 4 a0).bind fun r0 => some (r0)
  | _, _ => none
def impl_StowCode_4_enc (y : Bool) : Res T := ⟨[vR T 4 y], []⟩
theorem impl_StowCode_4_de (res : Res T) (y : Bool) (h : impl_StowCode_4_dec res = some y) : res = impl_StowCode_4_enc y := by
  obtain ⟨rets, outs⟩ := res
  unfold impl_StowCode_4_dec at h
  dsimp only at h
  split at h
  · obtain ⟨r0, h0, h⟩ := Option.bind_eq_some_iff.1 h
    cases h
    rw [retV_eq ok h0]
    rfl
  · cases h
def cmp_isNaN_int_dec (res : Res T) : Option Bool := match res.rets, res.outs with
  | [a0], [] => (retV (T := T) 4 a0).bind fun r0 => some (r0)
  | _, _ => none
def cmp_isNaN_int_enc (y : Bool) : Res T := ⟨[vR T 4 y], []⟩
theorem cmp_isNaN_int_de (res : Res T) (y : Bool) (h : cmp_isNaN_int_dec res = some y) : res = cmp_isNaN_int_enc y := by
  obtain ⟨rets, outs⟩ := res
  unfold cmp_isNaN_int_dec at h
  dsimp only at h
  split at h
  · obtain ⟨r0, h0, h⟩ := Option.bind_eq_some_iff.1 h
    cases h
    rw [retV_eq ok h0]
    rfl
  · cases h
def cmp_Compare_int_dec (res : Res T) : Option Int := match res.rets, res.outs with
  | [a0], [] => (retV (T := T) 3 a0).bind fun r0 => some (r0)
  | _, _ => none
def cmp_Compare_int_enc (y : Int) : Res T := ⟨[vR T 3 y], []⟩
theorem cmp_Compare_int_de (res : Res T) (y : Int) (h : cmp_Compare_int_dec res = some y) : res = cmp_Compare_int_enc y := by
  obtain ⟨rets, outs⟩ := res
  unfold cmp_Compare_int_dec at h
  dsimp only at h
  split at h
  · obtain ⟨r0, h0, h⟩ := Option.bind_eq_some_iff.1 h
    cases h
    rw [retV_eq ok h0]
    rfl
  · cases h
def impl_stackOf_1_dec (res : Res T) : Option Int := match res.rets, res.outs with
  | [a0], [] => (retV (T := T) 3 a0).bind fun r0 => some (r0)
  | _, _ => none
def impl_stackOf_1_enc (y : Int) : Res T := ⟨[vR T 3 y], []⟩
theorem impl_stackOf_1_de (res : Res T) (y : Int) (h : impl_stackOf_1_dec res = some y) : res = impl_stackOf_1_enc y := by
  obtain ⟨rets, outs⟩ := res
  unfold impl_stackOf_1_dec at h
  dsimp only at h
  split at h
  · obtain ⟨r0, h0, h⟩ := Option.bind_eq_some_iff.1 h
    cases h
    rw [retV_eq ok h0]
    rfl
  · cases h
def sSort_stackOf_1_dec (res : Res T) : Option (List SStow) := match res.rets, res.outs with
  | [], [b0] => (outS (T := T) 67 b0).bind fun r0 => some (r0)
  | _, _ => none
def sSort_stackOf_1_enc (y : List SStow) : Res T := ⟨[], [.sl 67 y]⟩
theorem sSort_stackOf_1_de (res : Res T) (y : List SStow) (h : sSort_stackOf_1_dec res = some y) : res = sSort_stackOf_1_enc y := by
  obtain ⟨rets, outs⟩ := res
  unfold sSort_stackOf_1_dec at h
  dsimp only at h
  split at h
  · obtain ⟨r0, h0, h⟩ := Option.bind_eq_some_iff.1 h
    cases h
    rw [outS_eq h0]
    rfl
  · cases h
def impl_stackOf_dec (res : Res T) : Option (List SBox) := match res.rets, res.outs with
  | [a0], [] => (retV (T := T) 49 a0).bind fun r0 => some (r0)
  | _, _ => none
def impl_stackOf_enc (y : List SBox) : Res T := ⟨[vR T 49 y], []⟩
theorem impl_stackOf_de (res : Res T) (y : List SBox) (h : impl_stackOf_dec res = some y) : res = impl_stackOf_enc y := by
  obtain ⟨rets, outs⟩ := res
  unfold impl_stackOf_dec at h
  dsimp only at h
  split at h
  · obtain ⟨r0, h0, h⟩ := Option.bind_eq_some_iff.1 h
    cases h
    rw [retV_eq ok h0]
    rfl
  · cases h
def impl_StackOk_dec (res : Res T) : Option Bool := match res.rets, res.outs with
  | [a0], [] => (retV (T := T) 4 a0).bind fun r0 => some (r0)
  | _, _ => none
def impl_StackOk_enc (y : Bool) : Res T := ⟨[vR T 4 y], []⟩
theorem impl_StackOk_de (res : Res T) (y : Bool) (h : impl_StackOk_dec res = some y) : res = impl_StackOk_enc y := by
  obtain ⟨rets, outs⟩ := res
  unfold impl_StackOk_dec at h
  dsimp only at h
  split at h
  · obtain ⟨r0, h0, h⟩ := Option.bind_eq_some_iff.1 h
    cases h
    rw [retV_eq ok h0]
    rfl
  · cases h
def impl_StowCode_5_dec (res : Res T) : Option Bool := match res.rets, res.outs with
  | [a0], [] => (retV (T := T) 4 a0).bind fun r0 => some (r0)
  | _, _ => none
def impl_StowCode_5_enc (y : Bool) : Res T := ⟨[vR T 4 y], []⟩
theorem impl_StowCode_5_de (res : Res T) (y : Bool) (h : impl_StowCode_5_dec res = some y) : res = impl_StowCode_5_enc y := by
  obtain ⟨rets, outs⟩ := res
  unfold impl_StowCode_5_dec at h
  dsimp only at h
  split at h
  · obtain ⟨r0, h0, h⟩ := Option.bind_eq_some_iff.1 h
    cases h
    rw [retV_eq ok h0]
    rfl
  · cases h
def impl_StowCode_6_dec (res : Res T) : Option Bool := match res.rets, res.outs with
  | [a0], [] => (retV (T := T) 4 a0).bind fun r0 => some (r0)
  | _, _ => none
def impl_StowCode_6_enc (y : Bool) : Res T := ⟨[vR T 4 y], []⟩
theorem impl_StowCode_6_de (res : Res T) (y : Bool) (h : impl_StowCode_6_dec res = some y) : res = impl_StowCode_6_enc y := by
  obtain ⟨rets, outs⟩ := res
  unfold impl_StowCode_6_dec at h
  dsimp only at h
  split at h
  · obtain ⟨r0, h0, h⟩ := Option.bind_eq_some_iff.1 h
    cases h
    rw [retV_eq ok h0]
    rfl
  · cases h
def impl_spotOk_dec (res : Res T) : Option Bool := match res.rets, res.outs with
  | [a0], [] => (retV (T := T) 4 a0).bind fun r0 => some (r0)
  | _, _ => none
def impl_spotOk_enc (y : Bool) : Res T := ⟨[vR T 4 y], []⟩
theorem impl_spotOk_de (res : Res T) (y : Bool) (h : impl_spotOk_dec res = some y) : res = impl_spotOk_enc y := by
  obtain ⟨rets, outs⟩ := res
  unfold impl_spotOk_dec at h
  dsimp only at h
  split at h
  · obtain ⟨r0, h0, h⟩ := Option.bind_eq_some_iff.1 h
    cases h
    rw [retV_eq ok h0]
    rfl
  · cases h
def impl_size_dec (res : Res T) : Option Int := match res.rets, res.outs with
  | [a0], [] => (retV (T := T) 3 a0).bind fun r0 => some (r0)
  | _, _ => none
def impl_size_enc (y : Int) : Res T := ⟨[vR T 3 y], []⟩
theorem impl_size_de (res : Res T) (y : Int) (h : impl_size_dec res = some y) : res = impl_size_enc y := by
  obtain ⟨rets, outs⟩ := res
  unfold impl_size_dec at h
  dsimp only at h
  split at h
  · obtain ⟨r0, h0, h⟩ := Option.bind_eq_some_iff.1 h
    cases h
    rw [retV_eq ok h0]
    rfl
  · cases h
def impl_Apart_dec (res : Res T) : Option Int := match res.rets, res.outs with
  | [a0], [] => (retV (T := T) 3 a0).bind fun r0 => some (r0)
  | _, _ => none
def impl_Apart_enc (y : Int) : Res T := ⟨[vR T 3 y], []⟩
theorem impl_Apart_de (res : Res T) (y : Int) (h : impl_Apart_dec res = some y) : res = impl_Apart_enc y := by
  obtain ⟨rets, outs⟩ := res
  unfold impl_Apart_dec at h
  dsimp only at h
  split at h
  · obtain ⟨r0, h0, h⟩ := Option.bind_eq_some_iff.1 h
    cases h
    rw [retV_eq ok h0]
    rfl
  · cases h
def impl_KeepsApart_dec (res : Res T) : Option Bool := match res.rets, res.outs with
  | [a0], [] => (retV (T := T) 4 a0).bind fun r0 => some (r0)
  | _, _ => none
def impl_KeepsApart_enc (y : Bool) : Res T := ⟨[vR T 4 y], []⟩
theorem impl_KeepsApart_de (res : Res T) (y : Bool) (h : impl_KeepsApart_dec res = some y) : res = impl_KeepsApart_enc y := by
  obtain ⟨rets, outs⟩ := res
  unfold impl_KeepsApart_dec at h
  dsimp only at h
  split at h
  · obtain ⟨r0, h0, h⟩ := Option.bind_eq_some_iff.1 h
    cases h
    rw [retV_eq ok h0]
    rfl
  · cases h
def impl_StowCode_7_1_dec (res : Res T) : Option Bool := match res.rets, res.outs with
  | [a0], [] => (retV (T := T) 4 a0).bind fun r0 => some (r0)
  | _, _ => none
def impl_StowCode_7_1_enc (y : Bool) : Res T := ⟨[vR T 4 y], []⟩
theorem impl_StowCode_7_1_de (res : Res T) (y : Bool) (h : impl_StowCode_7_1_dec res = some y) : res = impl_StowCode_7_1_enc y := by
  obtain ⟨rets, outs⟩ := res
  unfold impl_StowCode_7_1_dec at h
  dsimp only at h
  split at h
  · obtain ⟨r0, h0, h⟩ := Option.bind_eq_some_iff.1 h
    cases h
    rw [retV_eq ok h0]
    rfl
  · cases h
def sIndex_StowCode_7_1_dec (res : Res T) : Option Int := match res.rets, res.outs with
  | [a0], [] => (retV (T := T) 3 a0).bind fun r0 => some (r0)
  | _, _ => none
def sIndex_StowCode_7_1_enc (y : Int) : Res T := ⟨[vR T 3 y], []⟩
theorem sIndex_StowCode_7_1_de (res : Res T) (y : Int) (h : sIndex_StowCode_7_1_dec res = some y) : res = sIndex_StowCode_7_1_enc y := by
  obtain ⟨rets, outs⟩ := res
  unfold sIndex_StowCode_7_1_dec at h
  dsimp only at h
  split at h
  · obtain ⟨r0, h0, h⟩ := Option.bind_eq_some_iff.1 h
    cases h
    rw [retV_eq ok h0]
    rfl
  · cases h
def sContains_StowCode_7_1_dec (res : Res T) : Option Bool := match res.rets, res.outs with
  | [a0], [] => (retV (T := T) 4 a0).bind fun r0 => some (r0)
  | _, _ => none
def sContains_StowCode_7_1_enc (y : Bool) : Res T := ⟨[vR T 4 y], []⟩
theorem sContains_StowCode_7_1_de (res : Res T) (y : Bool) (h : sContains_StowCode_7_1_dec res = some y) : res = sContains_StowCode_7_1_enc y := by
  obtain ⟨rets, outs⟩ := res
  unfold sContains_StowCode_7_1_dec at h
  dsimp only at h
  split at h
  · obtain ⟨r0, h0, h⟩ := Option.bind_eq_some_iff.1 h
    cases h
    rw [retV_eq ok h0]
    rfl
  · cases h
def impl_StowCode_7_dec (res : Res T) : Option Bool := match res.rets, res.outs with
  | [a0], [] => (retV (T := T) 4 a0).bind fun r0 => some (r0)
  | _, _ => none
def impl_StowCode_7_enc (y : Bool) : Res T := ⟨[vR T 4 y], []⟩
theorem impl_StowCode_7_de (res : Res T) (y : Bool) (h : impl_StowCode_7_dec res = some y) : res = impl_StowCode_7_enc y := by
  obtain ⟨rets, outs⟩ := res
  unfold impl_StowCode_7_dec at h
  dsimp only at h
  split at h
  · obtain ⟨r0, h0, h⟩ := Option.bind_eq_some_iff.1 h
    cases h
    rw [retV_eq ok h0]
    rfl
  · cases h
def impl_StowCode_dec (res : Res T) : Option (Int × Int) := match res.rets, res.outs with
  | [a0, a1], [] => (retV (T := T) 3 a0).bind fun r0 => (retV (T := T) 3 a1).bind fun r1 => some (r0, r1)
  | _, _ => none
def impl_StowCode_enc (y : Int × Int) : Res T := ⟨[vR T 3 y.1, vR T 3 y.2], []⟩
theorem impl_StowCode_de (res : Res T) (y : Int × Int) (h : impl_StowCode_dec res = some y) : res = impl_StowCode_enc y := by
  obtain ⟨rets, outs⟩ := res
  unfold impl_StowCode_dec at h
  dsimp only at h
  split at h
  · obtain ⟨r0, h0, h⟩ := Option.bind_eq_some_iff.1 h
    obtain ⟨r1, h1, h⟩ := Option.bind_eq_some_iff.1 h
    cases h
    rw [retV_eq ok h0, retV_eq ok h1]
    rfl
  · cases h
def impl_over_dec (res : Res T) : Option Bool := match res.rets, res.outs with
  | [a0], [] => (retV (T := T) 4 a0).bind fun r0 => some (r0)
  | _, _ => none
def impl_over_enc (y : Bool) : Res T := ⟨[vR T 4 y], []⟩
theorem impl_over_de (res : Res T) (y : Bool) (h : impl_over_dec res = some y) : res = impl_over_enc y := by
  obtain ⟨rets, outs⟩ := res
  unfold impl_over_dec at h
  dsimp only at h
  split at h
  · obtain ⟨r0, h0, h⟩ := Option.bind_eq_some_iff.1 h
    cases h
    rw [retV_eq ok h0]
    rfl
  · cases h
def impl_overstows_dec (res : Res T) : Option Int := match res.rets, res.outs with
  | [a0], [] => (retV (T := T) 3 a0).bind fun r0 => some (r0)
  | _, _ => none
def impl_overstows_enc (y : Int) : Res T := ⟨[vR T 3 y], []⟩
theorem impl_overstows_de (res : Res T) (y : Int) (h : impl_overstows_dec res = some y) : res = impl_overstows_enc y := by
  obtain ⟨rets, outs⟩ := res
  unfold impl_overstows_dec at h
  dsimp only at h
  split at h
  · obtain ⟨r0, h0, h⟩ := Option.bind_eq_some_iff.1 h
    cases h
    rw [retV_eq ok h0]
    rfl
  · cases h
def impl_own_impl_Stow_dec (res : Res T) : Option (List SStow) := match res.rets, res.outs with
  | [a0], [] => (retV (T := T) 44 a0).bind fun r0 => some (r0)
  | _, _ => none
def impl_own_impl_Stow_enc (y : List SStow) : Res T := ⟨[vR T 44 y], []⟩
theorem impl_own_impl_Stow_de (res : Res T) (y : List SStow) (h : impl_own_impl_Stow_dec res = some y) : res = impl_own_impl_Stow_enc y := by
  obtain ⟨rets, outs⟩ := res
  unfold impl_own_impl_Stow_dec at h
  dsimp only at h
  split at h
  · obtain ⟨r0, h0, h⟩ := Option.bind_eq_some_iff.1 h
    cases h
    rw [retV_eq ok h0]
    rfl
  · cases h
def impl_Fewest_2_1_dec (res : Res T) : Option Bool := match res.rets, res.outs with
  | [a0], [] => (retV (T := T) 4 a0).bind fun r0 => some (r0)
  | _, _ => none
def impl_Fewest_2_1_enc (y : Bool) : Res T := ⟨[vR T 4 y], []⟩
theorem impl_Fewest_2_1_de (res : Res T) (y : Bool) (h : impl_Fewest_2_1_dec res = some y) : res = impl_Fewest_2_1_enc y := by
  obtain ⟨rets, outs⟩ := res
  unfold impl_Fewest_2_1_dec at h
  dsimp only at h
  split at h
  · obtain ⟨r0, h0, h⟩ := Option.bind_eq_some_iff.1 h
    cases h
    rw [retV_eq ok h0]
    rfl
  · cases h
def sIndex_Fewest_2_1_dec (res : Res T) : Option Int := match res.rets, res.outs with
  | [a0], [] => (retV (T := T) 3 a0).bind fun r0 => some (r0)
  | _, _ => none
def sIndex_Fewest_2_1_enc (y : Int) : Res T := ⟨[vR T 3 y], []⟩
theorem sIndex_Fewest_2_1_de (res : Res T) (y : Int) (h : sIndex_Fewest_2_1_dec res = some y) : res = sIndex_Fewest_2_1_enc y := by
  obtain ⟨rets, outs⟩ := res
  unfold sIndex_Fewest_2_1_dec at h
  dsimp only at h
  split at h
  · obtain ⟨r0, h0, h⟩ := Option.bind_eq_some_iff.1 h
    cases h
    rw [retV_eq ok h0]
    rfl
  · cases h
def sContains_Fewest_2_1_dec (res : Res T) : Option Bool := match res.rets, res.outs with
  | [a0], [] => (retV (T := T) 4 a0).bind fun r0 => some (r0)
  | _, _ => none
def sContains_Fewest_2_1_enc (y : Bool) : Res T := ⟨[vR T 4 y], []⟩
theorem sContains_Fewest_2_1_de (res : Res T) (y : Bool) (h : sContains_Fewest_2_1_dec res = some y) : res = sContains_Fewest_2_1_enc y := by
  obtain ⟨rets, outs⟩ := res
  unfold sContains_Fewest_2_1_dec at h
  dsimp only at h
  split at h
  · obtain ⟨r0, h0, h⟩ := Option.bind_eq_some_iff.1 h
    cases h
    rw [retV_eq ok h0]
    rfl
  · cases h
def impl_Fewest_2__self_dec (res : Res T) : Option (Int × List SStow) := match res.rets, res.outs with
  | [], [b0, b1] => (outV (T := T) 3 b0).bind fun r0 => (outV (T := T) 44 b1).bind fun r1 => some (r0, r1)
  | _, _ => none
def impl_Fewest_2__self_enc (y : Int × List SStow) : Res T := ⟨[], [.var 3 y.1, .var 44 y.2]⟩
theorem impl_Fewest_2__self_de (res : Res T) (y : Int × List SStow) (h : impl_Fewest_2__self_dec res = some y) : res = impl_Fewest_2__self_enc y := by
  obtain ⟨rets, outs⟩ := res
  unfold impl_Fewest_2__self_dec at h
  dsimp only at h
  split at h
  · obtain ⟨r0, h0, h⟩ := Option.bind_eq_some_iff.1 h
    obtain ⟨r1, h1, h⟩ := Option.bind_eq_some_iff.1 h
    cases h
    rw [outV_eq h0, outV_eq h1]
    rfl
  · cases h
def impl_Fewest_dec (res : Res T) : Option (List SStow × Bool) := match res.rets, res.outs with
  | [a0, a1], [] => (retV (T := T) 44 a0).bind fun r0 => (retV (T := T) 4 a1).bind fun r1 => some (r0, r1)
  | _, _ => none
def impl_Fewest_enc (y : List SStow × Bool) : Res T := ⟨[vR T 44 y.1, vR T 4 y.2], []⟩
theorem impl_Fewest_de (res : Res T) (y : List SStow × Bool) (h : impl_Fewest_dec res = some y) : res = impl_Fewest_enc y := by
  obtain ⟨rets, outs⟩ := res
  unfold impl_Fewest_dec at h
  dsimp only at h
  split at h
  · obtain ⟨r0, h0, h⟩ := Option.bind_eq_some_iff.1 h
    obtain ⟨r1, h1, h⟩ := Option.bind_eq_some_iff.1 h
    cases h
    rw [retV_eq ok h0, retV_eq ok h1]
    rfl
  · cases h
def spec_HatchesOk_dec (res : Res T) : Option Bool := match res.rets, res.outs with
  | [a0], [] => (retV (T := T) 4 a0).bind fun r0 => some (r0)
  | _, _ => none
def spec_HatchesOk_enc (y : Bool) : Res T := ⟨[vR T 4 y], []⟩
theorem spec_HatchesOk_de (res : Res T) (y : Bool) (h : spec_HatchesOk_dec res = some y) : res = spec_HatchesOk_enc y := by
  obtain ⟨rets, outs⟩ := res
  unfold spec_HatchesOk_dec at h
  dsimp only at h
  split at h
  · obtain ⟨r0, h0, h⟩ := Option.bind_eq_some_iff.1 h
    cases h
    rw [retV_eq ok h0]
    rfl
  · cases h
def spec_BoxName_dec (res : Res T) : Option Bool := match res.rets, res.outs with
  | [a0], [] => (retV (T := T) 4 a0).bind fun r0 => some (r0)
  | _, _ => none
def spec_BoxName_enc (y : Bool) : Res T := ⟨[vR T 4 y], []⟩
theorem spec_BoxName_de (res : Res T) (y : Bool) (h : spec_BoxName_dec res = some y) : res = spec_BoxName_enc y := by
  obtain ⟨rets, outs⟩ := res
  unfold spec_BoxName_dec at h
  dsimp only at h
  split at h
  · obtain ⟨r0, h0, h⟩ := Option.bind_eq_some_iff.1 h
    cases h
    rw [retV_eq ok h0]
    rfl
  · cases h
def spec_BoxOk_dec (res : Res T) : Option Bool := match res.rets, res.outs with
  | [a0], [] => (retV (T := T) 4 a0).bind fun r0 => some (r0)
  | _, _ => none
def spec_BoxOk_enc (y : Bool) : Res T := ⟨[vR T 4 y], []⟩
theorem spec_BoxOk_de (res : Res T) (y : Bool) (h : spec_BoxOk_dec res = some y) : res = spec_BoxOk_enc y := by
  obtain ⟨rets, outs⟩ := res
  unfold spec_BoxOk_dec at h
  dsimp only at h
  split at h
  · obtain ⟨r0, h0, h⟩ := Option.bind_eq_some_iff.1 h
    cases h
    rw [retV_eq ok h0]
    rfl
  · cases h
def spec_l12At_dec (res : Res T) : Option Int := match res.rets, res.outs with
  | [a0], [] => (retV (T := T) 3 a0).bind fun r0 => some (r0)
  | _, _ => none
def spec_l12At_enc (y : Int) : Res T := ⟨[vR T 3 y], []⟩
theorem spec_l12At_de (res : Res T) (y : Int) (h : spec_l12At_dec res = some y) : res = spec_l12At_enc y := by
  obtain ⟨rets, outs⟩ := res
  unfold spec_l12At_dec at h
  dsimp only at h
  split at h
  · obtain ⟨r0, h0, h⟩ := Option.bind_eq_some_iff.1 h
    cases h
    rw [retV_eq ok h0]
    rfl
  · cases h
def spec_l12Stack_dec (res : Res T) : Option (List SBox) := match res.rets, res.outs with
  | [a0], [] => (retV (T := T) 49 a0).bind fun r0 => some (r0)
  | _, _ => none
def spec_l12Stack_enc (y : List SBox) : Res T := ⟨[vR T 49 y], []⟩
theorem spec_l12Stack_de (res : Res T) (y : List SBox) (h : spec_l12Stack_dec res = some y) : res = spec_l12Stack_enc y := by
  obtain ⟨rets, outs⟩ := res
  unfold spec_l12Stack_dec at h
  dsimp only at h
  split at h
  · obtain ⟨r0, h0, h⟩ := Option.bind_eq_some_iff.1 h
    cases h
    rw [retV_eq ok h0]
    rfl
  · cases h
def spec_StackOk_dec (res : Res T) : Option Bool := match res.rets, res.outs with
  | [a0], [] => (retV (T := T) 4 a0).bind fun r0 => some (r0)
  | _, _ => none
def spec_StackOk_enc (y : Bool) : Res T := ⟨[vR T 4 y], []⟩
theorem spec_StackOk_de (res : Res T) (y : Bool) (h : spec_StackOk_dec res = some y) : res = spec_StackOk_enc y := by
  obtain ⟨rets, outs⟩ := res
  unfold spec_StackOk_dec at h
  dsimp only at h
  split at h
  · obtain ⟨r0, h0, h⟩ := Option.bind_eq_some_iff.1 h
    cases h
    rw [retV_eq ok h0]
    rfl
  · cases h
def spec_l12Cold_dec (res : Res T) : Option Int := match res.rets, res.outs with
  | [a0], [] => (retV (T := T) 3 a0).bind fun r0 => some (r0)
  | _, _ => none
def spec_l12Cold_enc (y : Int) : Res T := ⟨[vR T 3 y], []⟩
theorem spec_l12Cold_de (res : Res T) (y : Int) (h : spec_l12Cold_dec res = some y) : res = spec_l12Cold_enc y := by
  obtain ⟨rets, outs⟩ := res
  unfold spec_l12Cold_dec at h
  dsimp only at h
  split at h
  · obtain ⟨r0, h0, h⟩ := Option.bind_eq_some_iff.1 h
    cases h
    rw [retV_eq ok h0]
    rfl
  · cases h
def spec_l11Spot_dec (res : Res T) : Option Bool := match res.rets, res.outs with
  | [a0], [] => (retV (T := T) 4 a0).bind fun r0 => some (r0)
  | _, _ => none
def spec_l11Spot_enc (y : Bool) : Res T := ⟨[vR T 4 y], []⟩
theorem spec_l11Spot_de (res : Res T) (y : Bool) (h : spec_l11Spot_dec res = some y) : res = spec_l11Spot_enc y := by
  obtain ⟨rets, outs⟩ := res
  unfold spec_l11Spot_dec at h
  dsimp only at h
  split at h
  · obtain ⟨r0, h0, h⟩ := Option.bind_eq_some_iff.1 h
    cases h
    rw [retV_eq ok h0]
    rfl
  · cases h
def spec_l3Size_dec (res : Res T) : Option Int := match res.rets, res.outs with
  | [a0], [] => (retV (T := T) 3 a0).bind fun r0 => some (r0)
  | _, _ => none
def spec_l3Size_enc (y : Int) : Res T := ⟨[vR T 3 y], []⟩
theorem spec_l3Size_de (res : Res T) (y : Int) (h : spec_l3Size_dec res = some y) : res = spec_l3Size_enc y := by
  obtain ⟨rets, outs⟩ := res
  unfold spec_l3Size_dec at h
  dsimp only at h
  split at h
  · obtain ⟨r0, h0, h⟩ := Option.bind_eq_some_iff.1 h
    cases h
    rw [retV_eq ok h0]
    rfl
  · cases h
def spec_l1Least_dec (res : Res T) : Option Int := match res.rets, res.outs with
  | [a0], [] => (retV (T := T) 3 a0).bind fun r0 => some (r0)
  | _, _ => none
def spec_l1Least_enc (y : Int) : Res T := ⟨[vR T 3 y], []⟩
theorem spec_l1Least_de (res : Res T) (y : Int) (h : spec_l1Least_dec res = some y) : res = spec_l1Least_enc y := by
  obtain ⟨rets, outs⟩ := res
  unfold spec_l1Least_dec at h
  dsimp only at h
  split at h
  · obtain ⟨r0, h0, h⟩ := Option.bind_eq_some_iff.1 h
    cases h
    rw [retV_eq ok h0]
    rfl
  · cases h
def spec_Apart_dec (res : Res T) : Option Int := match res.rets, res.outs with
  | [a0], [] => (retV (T := T) 3 a0).bind fun r0 => some (r0)
  | _, _ => none
def spec_Apart_enc (y : Int) : Res T := ⟨[vR T 3 y], []⟩
theorem spec_Apart_de (res : Res T) (y : Int) (h : spec_Apart_dec res = some y) : res = spec_Apart_enc y := by
  obtain ⟨rets, outs⟩ := res
  unfold spec_Apart_dec at h
  dsimp only at h
  split at h
  · obtain ⟨r0, h0, h⟩ := Option.bind_eq_some_iff.1 h
    cases h
    rw [retV_eq ok h0]
    rfl
  · cases h
def spec_KeepsApart_dec (res : Res T) : Option Bool := match res.rets, res.outs with
  | [a0], [] => (retV (T := T) 4 a0).bind fun r0 => some (r0)
  | _, _ => none
def spec_KeepsApart_enc (y : Bool) : Res T := ⟨[vR T 4 y], []⟩
theorem spec_KeepsApart_de (res : Res T) (y : Bool) (h : spec_KeepsApart_dec res = some y) : res = spec_KeepsApart_enc y := by
  obtain ⟨rets, outs⟩ := res
  unfold spec_KeepsApart_dec at h
  dsimp only at h
  split at h
  · obtain ⟨r0, h0, h⟩ := Option.bind_eq_some_iff.1 h
    cases h
    rw [retV_eq ok h0]
    rfl
  · cases h
def spec_l12Fails_dec (res : Res T) : Option Bool := match res.rets, res.outs with
  | [a0], [] => (retV (T := T) 4 a0).bind fun r0 => some (r0)
  | _, _ => none
def spec_l12Fails_enc (y : Bool) : Res T := ⟨[vR T 4 y], []⟩
theorem spec_l12Fails_de (res : Res T) (y : Bool) (h : spec_l12Fails_dec res = some y) : res = spec_l12Fails_enc y := by
  obtain ⟨rets, outs⟩ := res
  unfold spec_l12Fails_dec at h
  dsimp only at h
  split at h
  · obtain ⟨r0, h0, h⟩ := Option.bind_eq_some_iff.1 h
    cases h
    rw [retV_eq ok h0]
    rfl
  · cases h
def spec_StowCode_dec (res : Res T) : Option (Int × Int) := match res.rets, res.outs with
  | [a0, a1], [] => (retV (T := T) 3 a0).bind fun r0 => (retV (T := T) 3 a1).bind fun r1 => some (r0, r1)
  | _, _ => none
def spec_StowCode_enc (y : Int × Int) : Res T := ⟨[vR T 3 y.1, vR T 3 y.2], []⟩
theorem spec_StowCode_de (res : Res T) (y : Int × Int) (h : spec_StowCode_dec res = some y) : res = spec_StowCode_enc y := by
  obtain ⟨rets, outs⟩ := res
  unfold spec_StowCode_dec at h
  dsimp only at h
  split at h
  · obtain ⟨r0, h0, h⟩ := Option.bind_eq_some_iff.1 h
    obtain ⟨r1, h1, h⟩ := Option.bind_eq_some_iff.1 h
    cases h
    rw [retV_eq ok h0, retV_eq ok h1]
    rfl
  · cases h
def spec_l12Over_dec (res : Res T) : Option Int := match res.rets, res.outs with
  | [a0], [] => (retV (T := T) 3 a0).bind fun r0 => some (r0)
  | _, _ => none
def spec_l12Over_enc (y : Int) : Res T := ⟨[vR T 3 y], []⟩
theorem spec_l12Over_de (res : Res T) (y : Int) (h : spec_l12Over_dec res = some y) : res = spec_l12Over_enc y := by
  obtain ⟨rets, outs⟩ := res
  unfold spec_l12Over_dec at h
  dsimp only at h
  split at h
  · obtain ⟨r0, h0, h⟩ := Option.bind_eq_some_iff.1 h
    cases h
    rw [retV_eq ok h0]
    rfl
  · cases h
def spec_l12Seek_dec (res : Res T) : Option (List SStow × Bool) := match res.rets, res.outs with
  | [a0, a1], [] => (retV (T := T) 44 a0).bind fun r0 => (retV (T := T) 4 a1).bind fun r1 => some (r0, r1)
  | _, _ => none
def spec_l12Seek_enc (y : List SStow × Bool) : Res T := ⟨[vR T 44 y.1, vR T 4 y.2], []⟩
theorem spec_l12Seek_de (res : Res T) (y : List SStow × Bool) (h : spec_l12Seek_dec res = some y) : res = spec_l12Seek_enc y := by
  obtain ⟨rets, outs⟩ := res
  unfold spec_l12Seek_dec at h
  dsimp only at h
  split at h
  · obtain ⟨r0, h0, h⟩ := Option.bind_eq_some_iff.1 h
    obtain ⟨r1, h1, h⟩ := Option.bind_eq_some_iff.1 h
    cases h
    rw [retV_eq ok h0, retV_eq ok h1]
    rfl
  · cases h
def spec_Fewest_dec (res : Res T) : Option (List SStow × Bool) := match res.rets, res.outs with
  | [a0, a1], [] => (retV (T := T) 44 a0).bind fun r0 => (retV (T := T) 4 a1).bind fun r1 => some (r0, r1)
  | _, _ => none
def spec_Fewest_enc (y : List SStow × Bool) : Res T := ⟨[vR T 44 y.1, vR T 4 y.2], []⟩
theorem spec_Fewest_de (res : Res T) (y : List SStow × Bool) (h : spec_Fewest_dec res = some y) : res = spec_Fewest_enc y := by
  obtain ⟨rets, outs⟩ := res
  unfold spec_Fewest_dec at h
  dsimp only at h
  split at h
  · obtain ⟨r0, h0, h⟩ := Option.bind_eq_some_iff.1 h
    obtain ⟨r1, h1, h⟩ := Option.bind_eq_some_iff.1 h
    cases h
    rw [retV_eq ok h0, retV_eq ok h1]
    rfl
  · cases h
def laws_at_dec (res : Res T) : Option Int := match res.rets, res.outs with
  | [a0], [] => (retV (T := T) 3 a0).bind fun r0 => some (r0)
  | _, _ => none
def laws_at_enc (y : Int) : Res T := ⟨[vR T 3 y], []⟩
theorem laws_at_de (res : Res T) (y : Int) (h : laws_at_dec res = some y) : res = laws_at_enc y := by
  obtain ⟨rets, outs⟩ := res
  unfold laws_at_dec at h
  dsimp only at h
  split at h
  · obtain ⟨r0, h0, h⟩ := Option.bind_eq_some_iff.1 h
    cases h
    rw [retV_eq ok h0]
    rfl
  · cases h
def laws_overs_dec (res : Res T) : Option Int := match res.rets, res.outs with
  | [a0], [] => (retV (T := T) 3 a0).bind fun r0 => some (r0)
  | _, _ => none
def laws_overs_enc (y : Int) : Res T := ⟨[vR T 3 y], []⟩
theorem laws_overs_de (res : Res T) (y : Int) (h : laws_overs_dec res = some y) : res = laws_overs_enc y := by
  obtain ⟨rets, outs⟩ := res
  unfold laws_overs_dec at h
  dsimp only at h
  split at h
  · obtain ⟨r0, h0, h⟩ := Option.bind_eq_some_iff.1 h
    cases h
    rw [retV_eq ok h0]
    rfl
  · cases h
def laws_FnFewest_dec (res : Res T) : Option Bool := match res.rets, res.outs with
  | [a0], [] => (retV (T := T) 4 a0).bind fun r0 => some (r0)
  | _, _ => none
def laws_FnFewest_enc (y : Bool) : Res T := ⟨[vR T 4 y], []⟩
theorem laws_FnFewest_de (res : Res T) (y : Bool) (h : laws_FnFewest_dec res = some y) : res = laws_FnFewest_enc y := by
  obtain ⟨rets, outs⟩ := res
  unfold laws_FnFewest_dec at h
  dsimp only at h
  split at h
  · obtain ⟨r0, h0, h⟩ := Option.bind_eq_some_iff.1 h
    cases h
    rw [retV_eq ok h0]
    rfl
  · cases h
def laws_big_D (n : Nat) (r0 : List (A T)) : Option Bool := ocons r0 fun a0 r1 => onil r1 (obind (argV (T := T) 22 a0) fun code0 => laws_big n code0)
def laws_big_ent (n : Nat) : Ent T := ⟨6, 0, [], Bool, laws_big_D n, laws_big_enc⟩
def spec_l1New_D (n : Nat) (r0 : List (A T)) : Option Sl1Cur := ocons r0 fun a0 r1 => onil r1 (obind (argV (T := T) 22 a0) fun code0 => spec_l1New n code0)
def spec_l1New_ent (n : Nat) : Ent T := ⟨28, 1, [], Sl1Cur, spec_l1New_D n, spec_l1New_enc⟩
def spec_l1Byte_D (n : Nat) (r0 : List (A T)) : Option (Int × Sl1Cur) := ocons r0 fun a0 r1 => onil r1 (obind (argP (T := T) 120 a0) fun c0 => spec_l1Byte n c0)
def spec_l1Byte_ent (n : Nat) : Ent T := ⟨79, 2, [], Int × Sl1Cur, spec_l1Byte_D n, spec_l1Byte_enc⟩
def spec_l1Below_D (n : Nat) (r0 : List (A T)) : Option (Int × Sl1Cur) := ocons r0 fun a0 r1 => ocons r1 fun a1 r2 => onil r2 (obind (argP (T := T) 120 a0) fun c0 => obind (argV (T := T) 3 a1) fun n1 => spec_l1Below n c0 n1)
def spec_l1Below_ent (n : Nat) : Ent T := ⟨30, 3, [], Int × Sl1Cur, spec_l1Below_D n, spec_l1Below_enc⟩
def spec_l1PickInt_D (n : Nat) (r0 : List (A T)) : Option (Int × Sl1Cur) := ocons r0 fun a0 r1 => ocons r1 fun a1 r2 => onil r2 (obind (argP (T := T) 120 a0) fun c0 => obind (argV (T := T) 30 a1) fun list1 => spec_l1PickInt n c0 list1)
def spec_l1PickInt_ent (n : Nat) : Ent T := ⟨80, 4, [], Int × Sl1Cur, spec_l1PickInt_D n, spec_l1PickInt_enc⟩
def spec_l12DrawBays_D (n : Nat) (r0 : List (A T)) : Option (List SHatch × Sl1Cur) := ocons r0 fun a0 r1 => ocons r1 fun a1 r2 => onil r2 (obind (argP (T := T) 120 a0) fun c0 => obind (argV (T := T) 4 a1) fun small1 => spec_l12DrawBays n c0 small1)
def spec_l12DrawBays_ent (n : Nat) : Ent T := ⟨62, 5, [], List SHatch × Sl1Cur, spec_l12DrawBays_D n, spec_l12DrawBays_enc⟩
def spec_l1In_D (n : Nat) (r0 : List (A T)) : Option Bool := ocons r0 fun a0 r1 => ocons r1 fun a1 r2 => ocons r2 fun a2 r3 => onil r3 (obind (argV (T := T) 3 a0) fun x0 => obind (argV (T := T) 3 a1) fun a1 => obind (argV (T := T) 3 a2) fun b2 => spec_l1In n x0 a1 b2)
def spec_l1In_ent (n : Nat) : Ent T := ⟨93, 6, [], Bool, spec_l1In_D n, spec_l1In_enc⟩
def spec_l11Letter_D (n : Nat) (r0 : List (A T)) : Option Int := ocons r0 fun a0 r1 => onil r1 (obind (argV (T := T) 3 a0) fun k0 => spec_l11Letter n k0)
def spec_l11Letter_ent (n : Nat) : Ent T := ⟨123, 7, [], Int, spec_l11Letter_D n, spec_l11Letter_enc⟩
def spec_CheckDigit_D (n : Nat) (r0 : List (A T)) : Option Int := ocons r0 fun a0 r1 => onil r1 (obind (argV (T := T) 9 a0) fun name0 => spec_CheckDigit n name0)
def spec_CheckDigit_ent (n : Nat) : Ent T := ⟨115, 8, [], Int, spec_CheckDigit_D n, spec_CheckDigit_enc⟩
def spec_l11DrawName_D (n : Nat) (r0 : List (A T)) : Option (ByteArray × Sl1Cur) := ocons r0 fun a0 r1 => onil r1 (obind (argP (T := T) 120 a0) fun c0 => spec_l11DrawName n c0)
def spec_l11DrawName_ent (n : Nat) : Ent T := ⟨106, 9, [], ByteArray × Sl1Cur, spec_l11DrawName_D n, spec_l11DrawName_enc⟩
def spec_l1Once_D (n : Nat) (r0 : List (A T)) : Option (Bool × Sl1Cur) := ocons r0 fun a0 r1 => ocons r1 fun a1 r2 => onil r2 (obind (argP (T := T) 120 a0) fun c0 => obind (argV (T := T) 3 a1) fun n1 => spec_l1Once n c0 n1)
def spec_l1Once_ent (n : Nat) : Ent T := ⟨86, 10, [], Bool × Sl1Cur, spec_l1Once_D n, spec_l1Once_enc⟩
def spec_l11Draw_D (n : Nat) (r0 : List (A T)) : Option (SBox × Sl1Cur) := ocons r0 fun a0 r1 => onil r1 (obind (argP (T := T) 120 a0) fun c0 => spec_l11Draw n c0)
def spec_l11Draw_ent (n : Nat) : Ent T := ⟨63, 11, [], SBox × Sl1Cur, spec_l11Draw_D n, spec_l11Draw_enc⟩
def spec_l1Pick_D (n : Nat) (r0 : List (A T)) : Option (ByteArray × Sl1Cur) := ocons r0 fun a0 r1 => ocons r1 fun a1 r2 => onil r2 (obind (argP (T := T) 120 a0) fun c0 => obind (argV (T := T) 151 a1) fun list1 => spec_l1Pick n c0 list1)
def spec_l1Pick_ent (n : Nat) : Ent T := ⟨119, 12, [], ByteArray × Sl1Cur, spec_l1Pick_D n, spec_l1Pick_enc⟩
def spec_l11DrawText_D (n : Nat) (r0 : List (A T)) : Option (ByteArray × Sl1Cur) := ocons r0 fun a0 r1 => onil r1 (obind (argP (T := T) 120 a0) fun c0 => spec_l11DrawText n c0)
def spec_l11DrawText_ent (n : Nat) : Ent T := ⟨107, 13, [], ByteArray × Sl1Cur, spec_l11DrawText_D n, spec_l11DrawText_enc⟩
def spec_l11DrawAny_D (n : Nat) (r0 : List (A T)) : Option (SBox × Sl1Cur) := ocons r0 fun a0 r1 => onil r1 (obind (argP (T := T) 120 a0) fun c0 => spec_l11DrawAny n c0)
def spec_l11DrawAny_ent (n : Nat) : Ent T := ⟨64, 14, [], SBox × Sl1Cur, spec_l11DrawAny_D n, spec_l11DrawAny_enc⟩
def spec_DrawFewest_D (n : Nat) (r0 : List (A T)) : Option (List SHatch × List SBox) := ocons r0 fun a0 r1 => onil r1 (obind (argV (T := T) 22 a0) fun code0 => spec_DrawFewest n code0)
def spec_DrawFewest_ent (n : Nat) : Ent T := ⟨24, 15, [], List SHatch × List SBox, spec_DrawFewest_D n, spec_DrawFewest_enc⟩
def impl_in_D (n : Nat) (r0 : List (A T)) : Option Bool := ocons r0 fun a0 r1 => ocons r1 fun a1 r2 => ocons r2 fun a2 r3 => onil r3 (obind (argV (T := T) 3 a0) fun n0 => obind (argV (T := T) 3 a1) fun least1 => obind (argV (T := T) 3 a2) fun most2 => impl_in n n0 least1 most2)
def impl_in_ent (n : Nat) : Ent T := ⟨69, 16, [], Bool, impl_in_D n, impl_in_enc⟩
def impl_HatchesOk_1_D (n : Nat) (r0 : List (A T)) : Option Bool := ocons r0 fun a0 r1 => onil r1 (obind (argV (T := T) 96 a0) fun h0 => impl_HatchesOk_1 n h0)
def impl_HatchesOk_1_ent (n : Nat) : Ent T := ⟨99, 17, [], Bool, impl_HatchesOk_1_D n, impl_HatchesOk_1_enc⟩
def sIndex_HatchesOk_1_D (n : Nat) (ar : List (A T)) : Option Int := match ar with
  | [a0, .fn _ []] => obind (argV (T := T) 47 a0) fun s0 => sIndex_HatchesOk_1 n s0
  | _ => none
def sIndex_HatchesOk_1_ent (n : Nat) : Ent T := ⟨117, 18, [99], Int, sIndex_HatchesOk_1_D n, sIndex_HatchesOk_1_enc⟩
def sContains_HatchesOk_1_D (n : Nat) (ar : List (A T)) : Option Bool := match ar with
  | [a0, .fn _ []] => obind (argV (T := T) 47 a0) fun s0 => sContains_HatchesOk_1 n s0
  | _ => none
def sContains_HatchesOk_1_ent (n : Nat) : Ent T := ⟨98, 19, [99], Bool, sContains_HatchesOk_1_D n, sContains_HatchesOk_1_enc⟩
def impl_HatchesOk_D (n : Nat) (r0 : List (A T)) : Option Bool := ocons r0 fun a0 r1 => onil r1 (obind (argV (T := T) 47 a0) fun bays0 => impl_HatchesOk n bays0)
def impl_HatchesOk_ent (n : Nat) : Ent T := ⟨49, 20, [], Bool, impl_HatchesOk_D n, impl_HatchesOk_enc⟩
def impl_valueOf_D (n : Nat) (r0 : List (A T)) : Option Int := ocons r0 fun a0 r1 => onil r1 (obind (argV (T := T) 5 a0) fun c0 => impl_valueOf n c0)
def impl_valueOf_ent (n : Nat) : Ent T := ⟨128, 21, [], Int, impl_valueOf_D n, impl_valueOf_enc⟩
def impl_CheckDigit_D (n : Nat) (r0 : List (A T)) : Option Int := ocons r0 fun a0 r1 => onil r1 (obind (argV (T := T) 9 a0) fun name0 => impl_CheckDigit n name0)
def impl_CheckDigit_ent (n : Nat) : Ent T := ⟨118, 22, [], Int, impl_CheckDigit_D n, impl_CheckDigit_enc⟩
def impl_BoxName_D (n : Nat) (r0 : List (A T)) : Option Bool := ocons r0 fun a0 r1 => onil r1 (obind (argV (T := T) 9 a0) fun text0 => impl_BoxName n text0)
def impl_BoxName_ent (n : Nat) : Ent T := ⟨100, 23, [], Bool, impl_BoxName_D n, impl_BoxName_enc⟩
def impl_portOk_D (n : Nat) (r0 : List (A T)) : Option Bool := ocons r0 fun a0 r1 => onil r1 (obind (argV (T := T) 3 a0) fun n0 => impl_portOk n n0)
def impl_portOk_ent (n : Nat) : Ent T := ⟨101, 24, [], Bool, impl_portOk_D n, impl_portOk_enc⟩
def impl_BoxOk_D (n : Nat) (r0 : List (A T)) : Option Bool := ocons r0 fun a0 r1 => onil r1 (obind (argV (T := T) 63 a0) fun b0 => impl_BoxOk n b0)
def impl_BoxOk_ent (n : Nat) : Ent T := ⟨50, 25, [], Bool, impl_BoxOk_D n, impl_BoxOk_enc⟩
def impl_Fewest_1_D (n : Nat) (r0 : List (A T)) : Option Bool := ocons r0 fun a0 r1 => ocons r1 fun a1 r2 => onil r2 (obind (argV (T := T) 63 a0) fun x0 => obind (argP (T := T) 63 a1) fun a1 => impl_Fewest_1 n x0 a1)
def impl_Fewest_1_ent (n : Nat) : Ent T := ⟨52, 26, [], Bool, impl_Fewest_1_D n, impl_Fewest_1_enc⟩
def sIndex_Fewest_1_D (n : Nat) (ar : List (A T)) : Option Int := match ar with
  | [a0, .fn _ [k1_0]] => obind (argV (T := T) 49 a0) fun s0 => obind (argP (T := T) 63 k1_0) fun f1c0 => sIndex_Fewest_1 n s0 f1c0
  | _ => none
def sIndex_Fewest_1_ent (n : Nat) : Ent T := ⟨102, 27, [52], Int, sIndex_Fewest_1_D n, sIndex_Fewest_1_enc⟩
def sContains_Fewest_1_D (n : Nat) (ar : List (A T)) : Option Bool := match ar with
  | [a0, .fn _ [k1_0]] => obind (argV (T := T) 49 a0) fun s0 => obind (argP (T := T) 63 k1_0) fun f1c0 => sContains_Fewest_1 n s0 f1c0
  | _ => none
def sContains_Fewest_1_ent (n : Nat) : Ent T := ⟨51, 28, [52], Bool, sContains_Fewest_1_D n, sContains_Fewest_1_enc⟩
def impl_StowCode_1_D (n : Nat) (r0 : List (A T)) : Option Bool := ocons r0 fun a0 r1 => ocons r1 fun a1 r2 => onil r2 (obind (argV (T := T) 3 a0) fun _0 => obind (argV (T := T) 67 a1) fun s1 => impl_StowCode_1 n _0 s1)
def impl_StowCode_1_ent (n : Nat) : Ent T := ⟨65, 29, [], Bool, impl_StowCode_1_D n, impl_StowCode_1_enc⟩
def impl_StowCode_2_1_D (n : Nat) (r0 : List (A T)) : Option Bool := ocons r0 fun a0 r1 => ocons r1 fun a1 r2 => onil r2 (obind (argV (T := T) 67 a0) fun x0 => obind (argP (T := T) 67 a1) fun a1 => impl_StowCode_2_1 n x0 a1)
def impl_StowCode_2_1_ent (n : Nat) : Ent T := ⟨67, 30, [], Bool, impl_StowCode_2_1_D n, impl_StowCode_2_1_enc⟩
def sIndex_StowCode_2_1_D (n : Nat) (ar : List (A T)) : Option Int := match ar with
  | [a0, .fn _ [k1_0]] => obind (argV (T := T) 44 a0) fun s0 => obind (argP (T := T) 67 k1_0) fun f1c0 => sIndex_StowCode_2_1 n s0 f1c0
  | _ => none
def sIndex_StowCode_2_1_ent (n : Nat) : Ent T := ⟨104, 31, [67], Int, sIndex_StowCode_2_1_D n, sIndex_StowCode_2_1_enc⟩
def sContains_StowCode_2_1_D (n : Nat) (ar : List (A T)) : Option Bool := match ar with
  | [a0, .fn _ [k1_0]] => obind (argV (T := T) 44 a0) fun s0 => obind (argP (T := T) 67 k1_0) fun f1c0 => sContains_StowCode_2_1 n s0 f1c0
  | _ => none
def sContains_StowCode_2_1_ent (n : Nat) : Ent T := ⟨56, 32, [67], Bool, sContains_StowCode_2_1_D n, sContains_StowCode_2_1_enc⟩
def impl_StowCode_2_D (n : Nat) (r0 : List (A T)) : Option Bool := ocons r0 fun a0 r1 => ocons r1 fun a1 r2 => ocons r2 fun a2 r3 => onil r3 (obind (argV (T := T) 3 a0) fun i0 => obind (argV (T := T) 67 a1) fun s1 => obind (argP (T := T) 44 a2) fun a2 => impl_StowCode_2 n i0 s1 a2)
def impl_StowCode_2_ent (n : Nat) : Ent T := ⟨66, 33, [], Bool, impl_StowCode_2_D n, impl_StowCode_2_enc⟩
def impl_StowCode_3_D (n : Nat) (r0 : List (A T)) : Option Bool := ocons r0 fun a0 r1 => ocons r1 fun a1 r2 => ocons r2 fun a2 r3 => onil r3 (obind (argV (T := T) 3 a0) fun _0 => obind (argV (T := T) 67 a1) fun s1 => obind (argP (T := T) 47 a2) fun a2 => impl_StowCode_3 n _0 s1 a2)
def impl_StowCode_3_ent (n : Nat) : Ent T := ⟨68, 34, [], Bool, impl_StowCode_3_D n, impl_StowCode_3_enc⟩
def impl_StowCode_4_1_D (n : Nat) (r0 : List (A T)) : Option Bool := ocons r0 fun a0 r1 => ocons r1 fun a1 r2 => onil r2 (obind (argV (T := T) 67 a0) fun x0 => obind (argP (T := T) 65 a1) fun a1 => impl_StowCode_4_1 n x0 a1)
def impl_StowCode_4_1_ent (n : Nat) : Ent T := ⟨71, 35, [], Bool, impl_StowCode_4_1_D n, impl_StowCode_4_1_enc⟩
def sIndex_StowCode_4_1_D (n : Nat) (ar : List (A T)) : Option Int := match ar with
  | [a0, .fn _ [k1_0]] => obind (argV (T := T) 44 a0) fun s0 => obind (argP (T := T) 65 k1_0) fun f1c0 => sIndex_StowCode_4_1 n s0 f1c0
  | _ => none
def sIndex_StowCode_4_1_ent (n : Nat) : Ent T := ⟨104, 36, [71], Int, sIndex_StowCode_4_1_D n, sIndex_StowCode_4_1_enc⟩
def sContains_StowCode_4_1_D (n : Nat) (ar : List (A T)) : Option Bool := match ar with
  | [a0, .fn _ [k1_0]] => obind (argV (T := T) 44 a0) fun s0 => obind (argP (T := T) 65 k1_0) fun f1c0 => sContains_StowCode_4_1 n s0 f1c0
  | _ => none
def sContains_StowCode_4_1_ent (n : Nat) : Ent T := ⟨56, 37, [71], Bool, sContains_StowCode_4_1_D n, sContains_StowCode_4_1_enc⟩
def impl_StowCode_4_D (n : Nat) (r0 : List (A T)) : Option Bool := ocons r0 fun a0 r1 => ocons r1 fun a1 r2 => ocons r2 fun a2 r3 => onil r3 (obind (argV (T := T) 3 a0) fun _0 => obind (argV (T := T) 67 a1) fun s1 => obind (argP (T := T) 44 a2) fun a2 => impl_StowCode_4 n _0 s1 a2)
def impl_StowCode_4_ent (n : Nat) : Ent T := ⟨70, 38, [], Bool, impl_StowCode_4_D n, impl_StowCode_4_enc⟩
def cmp_isNaN_int_D (n : Nat) (r0 : List (A T)) : Option Bool := ocons r0 fun a0 r1 => onil r1 (obind (argV (T := T) 3 a0) fun x0 => cmp_isNaN_int n x0)
def cmp_isNaN_int_ent (n : Nat) : Ent T := ⟨122, 39, [], Bool, cmp_isNaN_int_D n, cmp_isNaN_int_enc⟩
def cmp_Compare_int_D (n : Nat) (r0 : List (A T)) : Option Int := ocons r0 fun a0 r1 => ocons r1 fun a1 r2 => onil r2 (obind (argV (T := T) 3 a0) fun x0 => obind (argV (T := T) 3 a1) fun y1 => cmp_Compare_int n x0 y1)
def cmp_Compare_int_ent (n : Nat) : Ent T := ⟨110, 40, [], Int, cmp_Compare_int_D n, cmp_Compare_int_enc⟩
def impl_stackOf_1_D (n : Nat) (r0 : List (A T)) : Option Int := ocons r0 fun a0 r1 => ocons r1 fun a1 r2 => onil r2 (obind (argV (T := T) 67 a0) fun a0 => obind (argV (T := T) 67 a1) fun b1 => impl_stackOf_1 n a0 b1)
def impl_stackOf_1_ent (n : Nat) : Ent T := ⟨109, 41, [], Int, impl_stackOf_1_D n, impl_stackOf_1_enc⟩
def sSort_stackOf_1_D (n : Nat) (ar : List (A T)) : Option (List SStow) := match ar with
  | [a0, .fn _ []] => obind (argV (T := T) 44 a0) fun l0 => sSort_stackOf_1 n l0
  | _ => none
def sSort_stackOf_1_ent (n : Nat) : Ent T := ⟨108, 42, [109], List SStow, sSort_stackOf_1_D n, sSort_stackOf_1_enc⟩
def impl_stackOf_D (n : Nat) (r0 : List (A T)) : Option (List SBox) := ocons r0 fun a0 r1 => ocons r1 fun a1 r2 => ocons r2 fun a2 r3 => onil r3 (obind (argV (T := T) 44 a0) fun list0 => obind (argV (T := T) 3 a1) fun bay1 => obind (argV (T := T) 3 a2) fun row2 => impl_stackOf n list0 bay1 row2)
def impl_stackOf_ent (n : Nat) : Ent T := ⟨74, 43, [], List SBox, impl_stackOf_D n, impl_stackOf_enc⟩
def impl_StackOk_D (n : Nat) (r0 : List (A T)) : Option Bool := ocons r0 fun a0 r1 => ocons r1 fun a1 r2 => onil r2 (obind (argV (T := T) 49 a0) fun boxes0 => obind (argV (T := T) 3 a1) fun most1 => impl_StackOk n boxes0 most1)
def impl_StackOk_ent (n : Nat) : Ent T := ⟨73, 44, [], Bool, impl_StackOk_D n, impl_StackOk_enc⟩
def impl_StowCode_5_D (n : Nat) (r0 : List (A T)) : Option Bool := ocons r0 fun a0 r1 => ocons r1 fun a1 r2 => ocons r2 fun a2 r3 => ocons r3 fun a3 r4 => onil r4 (obind (argV (T := T) 3 a0) fun _0 => obind (argV (T := T) 67 a1) fun s1 => obind (argP (T := T) 44 a2) fun a2 => obind (argP (T := T) 47 a3) fun a3 => impl_StowCode_5 n _0 s1 a2 a3)
def impl_StowCode_5_ent (n : Nat) : Ent T := ⟨72, 45, [], Bool, impl_StowCode_5_D n, impl_StowCode_5_enc⟩
def impl_StowCode_6_D (n : Nat) (r0 : List (A T)) : Option Bool := ocons r0 fun a0 r1 => ocons r1 fun a1 r2 => ocons r2 fun a2 r3 => ocons r3 fun a3 r4 => onil r4 (obind (argV (T := T) 3 a0) fun _0 => obind (argV (T := T) 67 a1) fun s1 => obind (argP (T := T) 44 a2) fun a2 => obind (argP (T := T) 47 a3) fun a3 => impl_StowCode_6 n _0 s1 a2 a3)
def impl_StowCode_6_ent (n : Nat) : Ent T := ⟨75, 46, [], Bool, impl_StowCode_6_D n, impl_StowCode_6_enc⟩
def impl_spotOk_D (n : Nat) (r0 : List (A T)) : Option Bool := ocons r0 fun a0 r1 => onil r1 (obind (argV (T := T) 65 a0) fun s0 => impl_spotOk n s0)
def impl_spotOk_ent (n : Nat) : Ent T := ⟨111, 47, [], Bool, impl_spotOk_D n, impl_spotOk_enc⟩
def impl_size_D (n : Nat) (r0 : List (A T)) : Option Int := ocons r0 fun a0 r1 => onil r1 (obind (argV (T := T) 3 a0) fun n0 => impl_size n n0)
def impl_size_ent (n : Nat) : Ent T := ⟨112, 48, [], Int, impl_size_D n, impl_size_enc⟩
def impl_Apart_D (n : Nat) (r0 : List (A T)) : Option Int := ocons r0 fun a0 r1 => ocons r1 fun a1 r2 => onil r2 (obind (argV (T := T) 3 a0) fun a0 => obind (argV (T := T) 3 a1) fun b1 => impl_Apart n a0 b1)
def impl_Apart_ent (n : Nat) : Ent T := ⟨113, 49, [], Int, impl_Apart_D n, impl_Apart_enc⟩
def impl_KeepsApart_D (n : Nat) (r0 : List (A T)) : Option Bool := ocons r0 fun a0 r1 => ocons r1 fun a1 r2 => ocons r2 fun a2 r3 => ocons r3 fun a3 r4 => onil r4 (obind (argV (T := T) 63 a0) fun a0 => obind (argV (T := T) 65 a1) fun sa1 => obind (argV (T := T) 63 a2) fun b2 => obind (argV (T := T) 65 a3) fun sb3 => impl_KeepsApart n a0 sa1 b2 sb3)
def impl_KeepsApart_ent (n : Nat) : Ent T := ⟨78, 50, [], Bool, impl_KeepsApart_D n, impl_KeepsApart_enc⟩
def impl_StowCode_7_1_D (n : Nat) (r0 : List (A T)) : Option Bool := ocons r0 fun a0 r1 => ocons r1 fun a1 r2 => onil r2 (obind (argV (T := T) 67 a0) fun x0 => obind (argP (T := T) 67 a1) fun a1 => impl_StowCode_7_1 n x0 a1)
def impl_StowCode_7_1_ent (n : Nat) : Ent T := ⟨77, 51, [], Bool, impl_StowCode_7_1_D n, impl_StowCode_7_1_enc⟩
def sIndex_StowCode_7_1_D (n : Nat) (ar : List (A T)) : Option Int := match ar with
  | [a0, .fn _ [k1_0]] => obind (argV (T := T) 44 a0) fun s0 => obind (argP (T := T) 67 k1_0) fun f1c0 => sIndex_StowCode_7_1 n s0 f1c0
  | _ => none
def sIndex_StowCode_7_1_ent (n : Nat) : Ent T := ⟨104, 52, [77], Int, sIndex_StowCode_7_1_D n, sIndex_StowCode_7_1_enc⟩
def sContains_StowCode_7_1_D (n : Nat) (ar : List (A T)) : Option Bool := match ar with
  | [a0, .fn _ [k1_0]] => obind (argV (T := T) 44 a0) fun s0 => obind (argP (T := T) 67 k1_0) fun f1c0 => sContains_StowCode_7_1 n s0 f1c0
  | _ => none
def sContains_StowCode_7_1_ent (n : Nat) : Ent T := ⟨56, 53, [77], Bool, sContains_StowCode_7_1_D n, sContains_StowCode_7_1_enc⟩
def impl_StowCode_7_D (n : Nat) (r0 : List (A T)) : Option Bool := ocons r0 fun a0 r1 => ocons r1 fun a1 r2 => ocons r2 fun a2 r3 => onil r3 (obind (argV (T := T) 3 a0) fun i0 => obind (argV (T := T) 67 a1) fun s1 => obind (argP (T := T) 44 a2) fun a2 => impl_StowCode_7 n i0 s1 a2)
def impl_StowCode_7_ent (n : Nat) : Ent T := ⟨76, 54, [], Bool, impl_StowCode_7_D n, impl_StowCode_7_enc⟩
def impl_StowCode_D (n : Nat) (r0 : List (A T)) : Option (Int × Int) := ocons r0 fun a0 r1 => ocons r1 fun a1 r2 => onil r2 (obind (argV (T := T) 47 a0) fun bays0 => obind (argV (T := T) 44 a1) fun list1 => impl_StowCode n bays0 list1)
def impl_StowCode_ent (n : Nat) : Ent T := ⟨25, 55, [], Int × Int, impl_StowCode_D n, impl_StowCode_enc⟩
def impl_over_D (n : Nat) (r0 : List (A T)) : Option Bool := ocons r0 fun a0 r1 => ocons r1 fun a1 r2 => onil r2 (obind (argV (T := T) 65 a0) fun a0 => obind (argV (T := T) 65 a1) fun b1 => impl_over n a0 b1)
def impl_over_ent (n : Nat) : Ent T := ⟨103, 56, [], Bool, impl_over_D n, impl_over_enc⟩
def impl_overstows_D (n : Nat) (r0 : List (A T)) : Option Int := ocons r0 fun a0 r1 => onil r1 (obind (argV (T := T) 44 a0) fun list0 => impl_overstows n list0)
def impl_overstows_ent (n : Nat) : Ent T := ⟨54, 57, [], Int, impl_overstows_D n, impl_overstows_enc⟩
def impl_own_impl_Stow_D (n : Nat) (r0 : List (A T)) : Option (List SStow) := ocons r0 fun a0 r1 => onil r1 (obind (argV (T := T) 44 a0) fun l0 => impl_own_impl_Stow n l0)
def impl_own_impl_Stow_ent (n : Nat) : Ent T := ⟨55, 58, [], List SStow, impl_own_impl_Stow_D n, impl_own_impl_Stow_enc⟩
def impl_Fewest_2_1_D (n : Nat) (r0 : List (A T)) : Option Bool := ocons r0 fun a0 r1 => ocons r1 fun a1 r2 => onil r2 (obind (argV (T := T) 67 a0) fun x0 => obind (argP (T := T) 65 a1) fun a1 => impl_Fewest_2_1 n x0 a1)
def impl_Fewest_2_1_ent (n : Nat) : Ent T := ⟨57, 59, [], Bool, impl_Fewest_2_1_D n, impl_Fewest_2_1_enc⟩
def sIndex_Fewest_2_1_D (n : Nat) (ar : List (A T)) : Option Int := match ar with
  | [a0, .fn _ [k1_0]] => obind (argV (T := T) 44 a0) fun s0 => obind (argP (T := T) 65 k1_0) fun f1c0 => sIndex_Fewest_2_1 n s0 f1c0
  | _ => none
def sIndex_Fewest_2_1_ent (n : Nat) : Ent T := ⟨104, 60, [57], Int, sIndex_Fewest_2_1_D n, sIndex_Fewest_2_1_enc⟩
def sContains_Fewest_2_1_D (n : Nat) (ar : List (A T)) : Option Bool := match ar with
  | [a0, .fn _ [k1_0]] => obind (argV (T := T) 44 a0) fun s0 => obind (argP (T := T) 65 k1_0) fun f1c0 => sContains_Fewest_2_1 n s0 f1c0
  | _ => none
def sContains_Fewest_2_1_ent (n : Nat) : Ent T := ⟨56, 61, [57], Bool, sContains_Fewest_2_1_D n, sContains_Fewest_2_1_enc⟩
def impl_Fewest_2__self_Dr (rc : List SStow → List SBox → List SHatch → Int → List SStow → List SSpot → Option (Int × List SStow)) (ar : List (A T)) : Option (Int × List SStow) := match ar with
  | [a0, a1, a2, a3, a4, a5, .fn _ []] => obind (argV (T := T) 44 a0) fun l0 => obind (argP (T := T) 49 a1) fun a1 => obind (argP (T := T) 47 a2) fun a2 => obind (argP (T := T) 3 a3) fun a3 => obind (argP (T := T) 44 a4) fun a4 => obind (argP (T := T) 94 a5) fun a5 => rc l0 a1 a2 a3 a4 a5
  | _ => none
def impl_Fewest_2__self_D (n : Nat) (ar : List (A T)) : Option (Int × List SStow) := impl_Fewest_2__self_Dr (impl_Fewest_2__self_r n n) ar
def impl_Fewest_2__self_ent (n : Nat) : Ent T := ⟨53, 62, [2000000053], Int × List SStow, impl_Fewest_2__self_D n, impl_Fewest_2__self_enc⟩
def impl_Fewest_D (n : Nat) (r0 : List (A T)) : Option (List SStow × Bool) := ocons r0 fun a0 r1 => ocons r1 fun a1 r2 => onil r2 (obind (argV (T := T) 47 a0) fun bays0 => obind (argV (T := T) 49 a1) fun boxes1 => impl_Fewest n bays0 boxes1)
def impl_Fewest_ent (n : Nat) : Ent T := ⟨16, 63, [], List SStow × Bool, impl_Fewest_D n, impl_Fewest_enc⟩
def spec_HatchesOk_D (n : Nat) (r0 : List (A T)) : Option Bool := ocons r0 fun a0 r1 => onil r1 (obind (argV (T := T) 47 a0) fun bays0 => spec_HatchesOk n bays0)
def spec_HatchesOk_ent (n : Nat) : Ent T := ⟨44, 64, [], Bool, spec_HatchesOk_D n, spec_HatchesOk_enc⟩
def spec_BoxName_D (n : Nat) (r0 : List (A T)) : Option Bool := ocons r0 fun a0 r1 => onil r1 (obind (argV (T := T) 9 a0) fun text0 => spec_BoxName n text0)
def spec_BoxName_ent (n : Nat) : Ent T := ⟨94, 65, [], Bool, spec_BoxName_D n, spec_BoxName_enc⟩
def spec_BoxOk_D (n : Nat) (r0 : List (A T)) : Option Bool := ocons r0 fun a0 r1 => onil r1 (obind (argV (T := T) 63 a0) fun b0 => spec_BoxOk n b0)
def spec_BoxOk_ent (n : Nat) : Ent T := ⟨45, 66, [], Bool, spec_BoxOk_D n, spec_BoxOk_enc⟩
def spec_l12At_D (n : Nat) (r0 : List (A T)) : Option Int := ocons r0 fun a0 r1 => ocons r1 fun a1 r2 => onil r2 (obind (argV (T := T) 44 a0) fun list0 => obind (argV (T := T) 65 a1) fun s1 => spec_l12At n list0 s1)
def spec_l12At_ent (n : Nat) : Ent T := ⟨97, 67, [], Int, spec_l12At_D n, spec_l12At_enc⟩
def spec_l12Stack_D (n : Nat) (r0 : List (A T)) : Option (List SBox) := ocons r0 fun a0 r1 => ocons r1 fun a1 r2 => ocons r2 fun a2 r3 => onil r3 (obind (argV (T := T) 44 a0) fun list0 => obind (argV (T := T) 3 a1) fun bay1 => obind (argV (T := T) 3 a2) fun row2 => spec_l12Stack n list0 bay1 row2)
def spec_l12Stack_ent (n : Nat) : Ent T := ⟨125, 68, [], List SBox, spec_l12Stack_D n, spec_l12Stack_enc⟩
def spec_StackOk_D (n : Nat) (r0 : List (A T)) : Option Bool := ocons r0 fun a0 r1 => ocons r1 fun a1 r2 => onil r2 (obind (argV (T := T) 49 a0) fun boxes0 => obind (argV (T := T) 3 a1) fun most1 => spec_StackOk n boxes0 most1)
def spec_StackOk_ent (n : Nat) : Ent T := ⟨124, 69, [], Bool, spec_StackOk_D n, spec_StackOk_enc⟩
def spec_l12Cold_D (n : Nat) (r0 : List (A T)) : Option Int := ocons r0 fun a0 r1 => ocons r1 fun a1 r2 => onil r2 (obind (argV (T := T) 44 a0) fun list0 => obind (argV (T := T) 3 a1) fun bay1 => spec_l12Cold n list0 bay1)
def spec_l12Cold_ent (n : Nat) : Ent T := ⟨126, 70, [], Int, spec_l12Cold_D n, spec_l12Cold_enc⟩
def spec_l11Spot_D (n : Nat) (r0 : List (A T)) : Option Bool := ocons r0 fun a0 r1 => onil r1 (obind (argV (T := T) 65 a0) fun s0 => spec_l11Spot n s0)
def spec_l11Spot_ent (n : Nat) : Ent T := ⟨139, 71, [], Bool, spec_l11Spot_D n, spec_l11Spot_enc⟩
def spec_l3Size_D (n : Nat) (r0 : List (A T)) : Option Int := ocons r0 fun a0 r1 => onil r1 (obind (argV (T := T) 3 a0) fun x0 => spec_l3Size n x0)
def spec_l3Size_ent (n : Nat) : Ent T := ⟨140, 72, [], Int, spec_l3Size_D n, spec_l3Size_enc⟩
def spec_l1Least_D (n : Nat) (r0 : List (A T)) : Option Int := ocons r0 fun a0 r1 => ocons r1 fun a1 r2 => onil r2 (obind (argV (T := T) 3 a0) fun a0 => obind (argV (T := T) 3 a1) fun b1 => spec_l1Least n a0 b1)
def spec_l1Least_ent (n : Nat) : Ent T := ⟨147, 73, [], Int, spec_l1Least_D n, spec_l1Least_enc⟩
def spec_Apart_D (n : Nat) (r0 : List (A T)) : Option Int := ocons r0 fun a0 r1 => ocons r1 fun a1 r2 => onil r2 (obind (argV (T := T) 3 a0) fun a0 => obind (argV (T := T) 3 a1) fun b1 => spec_Apart n a0 b1)
def spec_Apart_ent (n : Nat) : Ent T := ⟨141, 74, [], Int, spec_Apart_D n, spec_Apart_enc⟩
def spec_KeepsApart_D (n : Nat) (r0 : List (A T)) : Option Bool := ocons r0 fun a0 r1 => ocons r1 fun a1 r2 => ocons r2 fun a2 r3 => ocons r3 fun a3 r4 => onil r4 (obind (argV (T := T) 63 a0) fun a0 => obind (argV (T := T) 65 a1) fun sa1 => obind (argV (T := T) 63 a2) fun b2 => obind (argV (T := T) 65 a3) fun sb3 => spec_KeepsApart n a0 sa1 b2 sb3)
def spec_KeepsApart_ent (n : Nat) : Ent T := ⟨127, 75, [], Bool, spec_KeepsApart_D n, spec_KeepsApart_enc⟩
def spec_l12Fails_D (n : Nat) (r0 : List (A T)) : Option Bool := ocons r0 fun a0 r1 => ocons r1 fun a1 r2 => ocons r2 fun a2 r3 => ocons r3 fun a3 r4 => onil r4 (obind (argV (T := T) 47 a0) fun bays0 => obind (argV (T := T) 44 a1) fun list1 => obind (argV (T := T) 3 a2) fun i2 => obind (argV (T := T) 3 a3) fun code3 => spec_l12Fails n bays0 list1 i2 code3)
def spec_l12Fails_ent (n : Nat) : Ent T := ⟨116, 76, [], Bool, spec_l12Fails_D n, spec_l12Fails_enc⟩
def spec_StowCode_D (n : Nat) (r0 : List (A T)) : Option (Int × Int) := ocons r0 fun a0 r1 => ocons r1 fun a1 r2 => onil r2 (obind (argV (T := T) 47 a0) fun bays0 => obind (argV (T := T) 44 a1) fun list1 => spec_StowCode n bays0 list1)
def spec_StowCode_ent (n : Nat) : Ent T := ⟨95, 77, [], Int × Int, spec_StowCode_D n, spec_StowCode_enc⟩
def spec_l12Over_D (n : Nat) (r0 : List (A T)) : Option Int := ocons r0 fun a0 r1 => onil r1 (obind (argV (T := T) 44 a0) fun list0 => spec_l12Over n list0)
def spec_l12Over_ent (n : Nat) : Ent T := ⟨96, 78, [], Int, spec_l12Over_D n, spec_l12Over_enc⟩
def spec_l12Seek_Dr (rc : List SHatch → List SBox → List SSpot → List SStow → List SStow → Bool → Option (List SStow × Bool)) (r0 : List (A T)) : Option (List SStow × Bool) := ocons r0 fun a0 r1 => ocons r1 fun a1 r2 => ocons r2 fun a2 r3 => ocons r3 fun a3 r4 => ocons r4 fun a4 r5 => ocons r5 fun a5 r6 => onil r6 (obind (argV (T := T) 47 a0) fun bays0 => obind (argV (T := T) 49 a1) fun boxes1 => obind (argV (T := T) 94 a2) fun spots2 => obind (argV (T := T) 44 a3) fun so3 => obind (argV (T := T) 44 a4) fun best4 => obind (argV (T := T) 4 a5) fun has5 => rc bays0 boxes1 spots2 so3 best4 has5)
def spec_l12Seek_D (n : Nat) (ar : List (A T)) : Option (List SStow × Bool) := spec_l12Seek_Dr (spec_l12Seek_r n n) ar
def spec_l12Seek_ent (n : Nat) : Ent T := ⟨46, 79, [], List SStow × Bool, spec_l12Seek_D n, spec_l12Seek_enc⟩
def spec_Fewest_D (n : Nat) (r0 : List (A T)) : Option (List SStow × Bool) := ocons r0 fun a0 r1 => ocons r1 fun a1 r2 => onil r2 (obind (argV (T := T) 47 a0) fun bays0 => obind (argV (T := T) 49 a1) fun boxes1 => spec_Fewest n bays0 boxes1)
def spec_Fewest_ent (n : Nat) : Ent T := ⟨13, 80, [], List SStow × Bool, spec_Fewest_D n, spec_Fewest_enc⟩
def laws_at_D (n : Nat) (r0 : List (A T)) : Option Int := ocons r0 fun a0 r1 => ocons r1 fun a1 r2 => onil r2 (obind (argV (T := T) 22 a0) fun code0 => obind (argV (T := T) 3 a1) fun i1 => laws_at n code0 i1)
def laws_at_ent (n : Nat) : Ent T := ⟨26, 81, [], Int, laws_at_D n, laws_at_enc⟩
def laws_overs_D (n : Nat) (r0 : List (A T)) : Option Int := ocons r0 fun a0 r1 => onil r1 (obind (argV (T := T) 44 a0) fun list0 => laws_overs n list0)
def laws_overs_ent (n : Nat) : Ent T := ⟨27, 82, [], Int, laws_overs_D n, laws_overs_enc⟩
def laws_FnFewest_D (n : Nat) (r0 : List (A T)) : Option Bool := ocons r0 fun a0 r1 => onil r1 (obind (argV (T := T) 22 a0) fun code0 => laws_FnFewest n code0)
def laws_FnFewest_ent (n : Nat) : Ent T := ⟨5, 83, [], Bool, laws_FnFewest_D n, laws_FnFewest_enc⟩
def ents (n : Nat) : List (Ent T) := [laws_big_ent n, spec_l1New_ent n, spec_l1Byte_ent n, spec_l1Below_ent n, spec_l1PickInt_ent n, spec_l12DrawBays_ent n, spec_l1In_ent n, spec_l11Letter_ent n, spec_CheckDigit_ent n, spec_l11DrawName_ent n, spec_l1Once_ent n, spec_l11Draw_ent n, spec_l1Pick_ent n, spec_l11DrawText_ent n, spec_l11DrawAny_ent n, spec_DrawFewest_ent n, impl_in_ent n, impl_HatchesOk_1_ent n, sIndex_HatchesOk_1_ent n, sContains_HatchesOk_1_ent n, impl_HatchesOk_ent n, impl_valueOf_ent n, impl_CheckDigit_ent n, impl_BoxName_ent n, impl_portOk_ent n, impl_BoxOk_ent n, impl_Fewest_1_ent n, sIndex_Fewest_1_ent n, sContains_Fewest_1_ent n, impl_StowCode_1_ent n, impl_StowCode_2_1_ent n, sIndex_StowCode_2_1_ent n, sContains_StowCode_2_1_ent n, impl_StowCode_2_ent n, impl_StowCode_3_ent n, impl_StowCode_4_1_ent n, sIndex_StowCode_4_1_ent n, sContains_StowCode_4_1_ent n, impl_StowCode_4_ent n, cmp_isNaN_int_ent n, cmp_Compare_int_ent n, impl_stackOf_1_ent n, sSort_stackOf_1_ent n, impl_stackOf_ent n, impl_StackOk_ent n, impl_StowCode_5_ent n, impl_StowCode_6_ent n, impl_spotOk_ent n, impl_size_ent n, impl_Apart_ent n, impl_KeepsApart_ent n, impl_StowCode_7_1_ent n, sIndex_StowCode_7_1_ent n, sContains_StowCode_7_1_ent n, impl_StowCode_7_ent n, impl_StowCode_ent n, impl_over_ent n, impl_overstows_ent n, impl_own_impl_Stow_ent n, impl_Fewest_2_1_ent n, sIndex_Fewest_2_1_ent n, sContains_Fewest_2_1_ent n, impl_Fewest_2__self_ent n, impl_Fewest_ent n, spec_HatchesOk_ent n, spec_BoxName_ent n, spec_BoxOk_ent n, spec_l12At_ent n, spec_l12Stack_ent n, spec_StackOk_ent n, spec_l12Cold_ent n, spec_l11Spot_ent n, spec_l3Size_ent n, spec_l1Least_ent n, spec_Apart_ent n, spec_KeepsApart_ent n, spec_l12Fails_ent n, spec_StowCode_ent n, spec_l12Over_ent n, spec_l12Seek_ent n, spec_Fewest_ent n, laws_at_ent n, laws_overs_ent n, laws_FnFewest_ent n]
abbrev Phi (n i : Nat) {R : Type} (f : Nat) (ar : List (A T)) (K : Res T → Option R) : Option R := PhiE (ents n) i f ar K
theorem mixed : Try.prog.follows .mixedOrders = true := by kernel_rfl
noncomputable def laws_big_code : Code := match Try.f6.body with | some c => c | none => .skip
def laws_big_ann : Ann := fun id => none
def laws_big_Ls (n : Nat) : Nat → Option (LSpec T) := fun id => none
theorem laws_big_tie (n : Nat) (code0 : List Int) : evF (T := T) (Phi n 0) (laws_big_Ls n) laws_big_ann n Try.f6 (sg 6) [vA T 22 code0] laws_big_dec = laws_big n code0 := by kernel_rfl
theorem laws_big_lo (n : Nat) : LoopsOk (T := T) (Phi n 0) (laws_big_Ls n) laws_big_ann n laws_big_code := loopsOk_all (cs := []) (by kernel_rfl) trivial
theorem laws_big_ok (n : Nat) : EntOk Try.prog (ents n) (laws_big_ent n) := by
  intro hs ar y hg h
  replace h : laws_big_D n ar = some y := h
  unfold laws_big_D at h
  replace h := ocons_some h
  obtain ⟨a0, r0, rfl, h⟩ := h
  replace h := onil_some h
  obtain ⟨rfl, h⟩ := h
  obtain ⟨code0, qh0, h⟩ := obind_some h
  rw [argV_eq ok qh0]
  exact call_of (phiE_nat _ _) hs ok mixed Try.func6 (c := laws_big_code) (by kernel_rfl) (laws_big_lo n) (by kernel_rfl) (by kernel_rfl) (by kernel_rfl) laws_big_de ((laws_big_tie n code0).trans h)
noncomputable def spec_l1New_code : Code := match Try.f28.body with | some c => c | none => .skip
def spec_l1New_3_sv : List Sv := [.one (.arr 5), .one (.int .i64), .one (.int .i64)]
def spec_l1New_3_so : List So := []
def spec_l1New_3_emb (c : List Int) (x : Int × Int) : EVs T spec_l1New_3_sv × EOs T spec_l1New_3_so := ((c, x.1, x.2, ()), ())
def spec_l1New_3_prj (y : EVs T spec_l1New_3_sv × EOs T spec_l1New_3_so) : List Int × (Int × Int) := ((y.1.1), (y.1.2.1, y.1.2.2.1))
def spec_l1New_3_b (n : Nat) {R : Type} (K : Ex → Sm.St T → Option R) (c : List Int) (x : Int × Int) (J : (Int × Int) → Option R) : Option R :=
  spec_l1New_L3 n (fun (y1 : Int) => K (.exit 0) (stOf (T := T) [0, 3] [] [.one (.arr 5), .one (.int .i64)] [] (c, y1, ()) ())) (fun z0 z1 => J (z0, z1)) c x.1 x.2
def spec_l1New_3_sp (n : Nat) : LSpec T := mkSpec T ⟨[], [0, 3, 4], []⟩ spec_l1New_3_sv spec_l1New_3_so (List Int) (Int × Int) spec_l1New_3_emb spec_l1New_3_prj (spec_l1New_3_b n)
noncomputable def spec_l1New_3_c : Code := ((loopCodes spec_l1New_code)[0]?).getD .skip
def spec_l1New_ann : Ann := fun id => bif Nat.beq id 3000003 then some ⟨[], [0, 3], []⟩ else none
def spec_l1New_Ls (n : Nat) : Nat → Option (LSpec T) := fun id => bif Nat.beq id 3 then some (spec_l1New_3_sp n) else none
theorem spec_l1New_3_le (n : Nat) : LoopEq (T := T) (Phi n 1) (spec_l1New_Ls n) spec_l1New_ann n spec_l1New_3_c (spec_l1New_3_sp n) := ⟨mkSpec_dec (fun y => rfl), fun c x => by kernel_rfl, fun K J c x => by kernel_rfl⟩
theorem spec_l1New_tie (n : Nat) (code0 : List Int) : evF (T := T) (Phi n 1) (spec_l1New_Ls n) spec_l1New_ann n Try.f28 (sg 28) [vA T 22 code0] spec_l1New_dec = spec_l1New n code0 := by kernel_rfl
theorem spec_l1New_lo (n : Nat) : LoopsOk (T := T) (Phi n 1) (spec_l1New_Ls n) spec_l1New_ann n spec_l1New_code := loopsOk_all (cs := [spec_l1New_3_c]) (by kernel_rfl) ⟨⟨_, by kernel_rfl, spec_l1New_3_le n⟩, trivial⟩
theorem spec_l1New_ok (n : Nat) : EntOk Try.prog (ents n) (spec_l1New_ent n) := by
  intro hs ar y hg h
  replace h : spec_l1New_D n ar = some y := h
  unfold spec_l1New_D at h
  replace h := ocons_some h
  obtain ⟨a0, r0, rfl, h⟩ := h
  replace h := onil_some h
  obtain ⟨rfl, h⟩ := h
  obtain ⟨code0, qh0, h⟩ := obind_some h
  rw [argV_eq ok qh0]
  exact call_of (phiE_nat _ _) hs ok mixed Try.func28 (c := spec_l1New_code) (by kernel_rfl) (spec_l1New_lo n) (by kernel_rfl) (by kernel_rfl) (by kernel_rfl) spec_l1New_de ((spec_l1New_tie n code0).trans h)
noncomputable def spec_l1Byte_code : Code := match Try.f79.body with | some c => c | none => .skip
def spec_l1Byte_ann : Ann := fun id => none
def spec_l1Byte_Ls (n : Nat) : Nat → Option (LSpec T) := fun id => none
theorem spec_l1Byte_tie (n : Nat) (c0 : Sl1Cur) : evF (T := T) (Phi n 2) (spec_l1Byte_Ls n) spec_l1Byte_ann n Try.f79 (sg 79) [.ptr 120 c0] spec_l1Byte_dec = spec_l1Byte n c0 := by kernel_rfl
theorem spec_l1Byte_lo (n : Nat) : LoopsOk (T := T) (Phi n 2) (spec_l1Byte_Ls n) spec_l1Byte_ann n spec_l1Byte_code := loopsOk_all (cs := []) (by kernel_rfl) trivial
theorem spec_l1Byte_ok (n : Nat) : EntOk Try.prog (ents n) (spec_l1Byte_ent n) := by
  intro hs ar y hg h
  replace h : spec_l1Byte_D n ar = some y := h
  unfold spec_l1Byte_D at h
  replace h := ocons_some h
  obtain ⟨a0, r0, rfl, h⟩ := h
  replace h := onil_some h
  obtain ⟨rfl, h⟩ := h
  obtain ⟨c0, qh0, h⟩ := obind_some h
  rw [argP_eq qh0]
  exact call_of (phiE_nat _ _) hs ok mixed Try.func79 (c := spec_l1Byte_code) (by kernel_rfl) (spec_l1Byte_lo n) (by kernel_rfl) (by kernel_rfl) (by kernel_rfl) spec_l1Byte_de ((spec_l1Byte_tie n c0).trans h)
noncomputable def spec_l1Below_code : Code := match Try.f30.body with | some c => c | none => .skip
def spec_l1Below_ann : Ann := fun id => none
def spec_l1Below_Ls (n : Nat) : Nat → Option (LSpec T) := fun id => none
theorem spec_l1Below_tie (n : Nat) (c0 : Sl1Cur) (n1 : Int) : evF (T := T) (Phi n 3) (spec_l1Below_Ls n) spec_l1Below_ann n Try.f30 (sg 30) [.ptr 120 c0, vA T 3 n1] spec_l1Below_dec = spec_l1Below n c0 n1 := by kernel_rfl
theorem spec_l1Below_lo (n : Nat) : LoopsOk (T := T) (Phi n 3) (spec_l1Below_Ls n) spec_l1Below_ann n spec_l1Below_code := loopsOk_all (cs := []) (by kernel_rfl) trivial
theorem spec_l1Below_ok (n : Nat) : EntOk Try.prog (ents n) (spec_l1Below_ent n) := by
  intro hs ar y hg h
  replace h : spec_l1Below_D n ar = some y := h
  unfold spec_l1Below_D at h
  replace h := ocons_some h
  obtain ⟨a0, r0, rfl, h⟩ := h
  replace h := ocons_some h
  obtain ⟨a1, r1, rfl, h⟩ := h
  replace h := onil_some h
  obtain ⟨rfl, h⟩ := h
  obtain ⟨c0, qh0, h⟩ := obind_some h
  obtain ⟨n1, qh1, h⟩ := obind_some h
  rw [argP_eq qh0, argV_eq ok qh1]
  exact call_of (phiE_nat _ _) hs ok mixed Try.func30 (c := spec_l1Below_code) (by kernel_rfl) (spec_l1Below_lo n) (by kernel_rfl) (by kernel_rfl) (by kernel_rfl) spec_l1Below_de ((spec_l1Below_tie n c0 n1).trans h)
noncomputable def spec_l1PickInt_code : Code := match Try.f80.body with | some c => c | none => .skip
def spec_l1PickInt_ann : Ann := fun id => none
def spec_l1PickInt_Ls (n : Nat) : Nat → Option (LSpec T) := fun id => none
theorem spec_l1PickInt_tie (n : Nat) (c0 : Sl1Cur) (list1 : List Int) : evF (T := T) (Phi n 4) (spec_l1PickInt_Ls n) spec_l1PickInt_ann n Try.f80 (sg 80) [.ptr 120 c0, vA T 30 list1] spec_l1PickInt_dec = spec_l1PickInt n c0 list1 := by kernel_rfl
theorem spec_l1PickInt_lo (n : Nat) : LoopsOk (T := T) (Phi n 4) (spec_l1PickInt_Ls n) spec_l1PickInt_ann n spec_l1PickInt_code := loopsOk_all (cs := []) (by kernel_rfl) trivial
theorem spec_l1PickInt_ok (n : Nat) : EntOk Try.prog (ents n) (spec_l1PickInt_ent n) := by
  intro hs ar y hg h
  replace h : spec_l1PickInt_D n ar = some y := h
  unfold spec_l1PickInt_D at h
  replace h := ocons_some h
  obtain ⟨a0, r0, rfl, h⟩ := h
  replace h := ocons_some h
  obtain ⟨a1, r1, rfl, h⟩ := h
  replace h := onil_some h
  obtain ⟨rfl, h⟩ := h
  obtain ⟨c0, qh0, h⟩ := obind_some h
  obtain ⟨list1, qh1, h⟩ := obind_some h
  rw [argP_eq qh0, argV_eq ok qh1]
  exact call_of (phiE_nat _ _) hs ok mixed Try.func80 (c := spec_l1PickInt_code) (by kernel_rfl) (spec_l1PickInt_lo n) (by kernel_rfl) (by kernel_rfl) (by kernel_rfl) spec_l1PickInt_de ((spec_l1PickInt_tie n c0 list1).trans h)
noncomputable def spec_l12DrawBays_code : Code := match Try.f62.body with | some c => c | none => .skip
def spec_l12DrawBays_3_sv : List Sv := [.one (.ptr 4503599627370496 0 0), .one (.bool), .one (.own 3000000 96 false), .one (.int .i64)]
def spec_l12DrawBays_3_so : List So := [.var [.arr 5, .int .i64, .int .i64], .arr 96 false]
def spec_l12DrawBays_3_emb (c : Bool) (x : Int × Sl1Cur × List SHatch) : EVs T spec_l12DrawBays_3_sv × EOs T spec_l12DrawBays_3_so := (((), c, (), x.1, ()), ((x.2.1.b, x.2.1.i, x.2.1.h, ()), x.2.2, ()))
def spec_l12DrawBays_3_prj (y : EVs T spec_l12DrawBays_3_sv × EOs T spec_l12DrawBays_3_so) : Bool × (Int × Sl1Cur × List SHatch) := ((y.1.2.1), (y.1.2.2.2.1, ((⟨y.2.1.1, y.2.1.2.1, y.2.1.2.2.1⟩ : Sl1Cur) : Sl1Cur), y.2.2.1))
def spec_l12DrawBays_3_b (n : Nat) {R : Type} (K : Ex → Sm.St T → Option R) (c : Bool) (x : Int × Sl1Cur × List SHatch) (J : (Int × Sl1Cur × List SHatch) → Option R) : Option R :=
  spec_l12DrawBays_L3 n (fun (y0 : Sl1Cur) (y1 : List SHatch) => K (.exit 0) (stOf (T := T) [0, 5] [4503599627370496, 3000000] [.one (.ptr 4503599627370496 0 0), .one (.own 3000000 96 false)] [.var [.arr 5, .int .i64, .int .i64], .arr 96 false] ((), (), ()) ((y0.b, y0.i, y0.h, ()), y1, ()))) (fun z0 z1 z2 => J (z0, z1, z2)) c x.1 x.2.1 x.2.2
def spec_l12DrawBays_3_sp (n : Nat) : LSpec T := mkSpec T ⟨[((.reg 5), 3000000, 96)], [0, 1, 5, 6], [4503599627370496, 3000000]⟩ spec_l12DrawBays_3_sv spec_l12DrawBays_3_so (Bool) (Int × Sl1Cur × List SHatch) spec_l12DrawBays_3_emb spec_l12DrawBays_3_prj (spec_l12DrawBays_3_b n)
noncomputable def spec_l12DrawBays_3_c : Code := ((loopCodes spec_l12DrawBays_code)[0]?).getD .skip
def spec_l12DrawBays_23_sv : List Sv := [.one (.own 3000000 96 false), .one (.int .i64)]
def spec_l12DrawBays_23_so : List So := [.arr 96 false, .var [.arr 5, .int .i64, .int .i64]]
def spec_l12DrawBays_23_emb (c : Sl1Cur) (x : Int × List SHatch) : EVs T spec_l12DrawBays_23_sv × EOs T spec_l12DrawBays_23_so := (((), x.1, ()), (x.2, (c.b, c.i, c.h, ()), ()))
def spec_l12DrawBays_23_prj (y : EVs T spec_l12DrawBays_23_sv × EOs T spec_l12DrawBays_23_so) : Sl1Cur × (Int × List SHatch) := ((((⟨y.2.2.1.1, y.2.2.1.2.1, y.2.2.1.2.2.1⟩ : Sl1Cur) : Sl1Cur)), (y.1.2.1, y.2.1))
def spec_l12DrawBays_23_b (n : Nat) {R : Type} (K : Ex → Sm.St T → Option R) (c : Sl1Cur) (x : Int × List SHatch) (J : (Int × List SHatch) → Option R) : Option R :=
  spec_l12DrawBays_L23 n (fun (y0 : List SHatch) => K (.exit 3) (stOf (T := T) [5] [3000000, 4503599627370496] [.one (.own 3000000 96 false)] [.arr 96 false, .var [.arr 5, .int .i64, .int .i64]] ((), ()) (y0, (c.b, c.i, c.h, ()), ()))) (fun z0 z1 => J (z0, z1)) x.1 x.2 c
def spec_l12DrawBays_23_sp (n : Nat) : LSpec T := mkSpec T ⟨[((.reg 5), 3000000, 96)], [5, 8], [3000000, 4503599627370496]⟩ spec_l12DrawBays_23_sv spec_l12DrawBays_23_so (Sl1Cur) (Int × List SHatch) spec_l12DrawBays_23_emb spec_l12DrawBays_23_prj (spec_l12DrawBays_23_b n)
noncomputable def spec_l12DrawBays_23_c : Code := ((loopCodes spec_l12DrawBays_code)[1]?).getD .skip
def spec_l12DrawBays_ann : Ann := fun id => bif Nat.beq id 3000003 then some ⟨[((.reg 5), 3000000, 96)], [0, 5], [4503599627370496, 3000000]⟩ else bif Nat.beq id 6000023 then some ⟨[((.reg 5), 3000000, 96)], [5], [3000000, 4503599627370496]⟩ else none
def spec_l12DrawBays_Ls (n : Nat) : Nat → Option (LSpec T) := fun id => bif Nat.beq id 3 then some (spec_l12DrawBays_3_sp n) else bif Nat.beq id 23 then some (spec_l12DrawBays_23_sp n) else none
theorem spec_l12DrawBays_3_le (n : Nat) : LoopEq (T := T) (Phi n 5) (spec_l12DrawBays_Ls n) spec_l12DrawBays_ann n spec_l12DrawBays_3_c (spec_l12DrawBays_3_sp n) := ⟨mkSpec_dec (fun y => rfl), fun c x => by kernel_rfl, fun K J c x => by kernel_rfl⟩
theorem spec_l12DrawBays_23_le (n : Nat) : LoopEq (T := T) (Phi n 5) (spec_l12DrawBays_Ls n) spec_l12DrawBays_ann n spec_l12DrawBays_23_c (spec_l12DrawBays_23_sp n) := ⟨mkSpec_dec (fun y => rfl), fun c x => by kernel_rfl, fun K J c x => by kernel_rfl⟩
theorem spec_l12DrawBays_tie (n : Nat) (c0 : Sl1Cur) (small1 : Bool) : evF (T := T) (Phi n 5) (spec_l12DrawBays_Ls n) spec_l12DrawBays_ann n Try.f62 (sg 62) [.ptr 120 c0, vA T 4 small1] spec_l12DrawBays_dec = spec_l12DrawBays n c0 small1 := by kernel_rfl
theorem spec_l12DrawBays_lo (n : Nat) : LoopsOk (T := T) (Phi n 5) (spec_l12DrawBays_Ls n) spec_l12DrawBays_ann n spec_l12DrawBays_code := loopsOk_all (cs := [spec_l12DrawBays_3_c, spec_l12DrawBays_23_c]) (by kernel_rfl) ⟨⟨_, by kernel_rfl, spec_l12DrawBays_3_le n⟩, ⟨_, by kernel_rfl, spec_l12DrawBays_23_le n⟩, trivial⟩
theorem spec_l12DrawBays_ok (n : Nat) : EntOk Try.prog (ents n) (spec_l12DrawBays_ent n) := by
  intro hs ar y hg h
  replace h : spec_l12DrawBays_D n ar = some y := h
  unfold spec_l12DrawBays_D at h
  replace h := ocons_some h
  obtain ⟨a0, r0, rfl, h⟩ := h
  replace h := ocons_some h
  obtain ⟨a1, r1, rfl, h⟩ := h
  replace h := onil_some h
  obtain ⟨rfl, h⟩ := h
  obtain ⟨c0, qh0, h⟩ := obind_some h
  obtain ⟨small1, qh1, h⟩ := obind_some h
  rw [argP_eq qh0, argV_eq ok qh1]
  exact call_of (phiE_nat _ _) hs ok mixed Try.func62 (c := spec_l12DrawBays_code) (by kernel_rfl) (spec_l12DrawBays_lo n) (by kernel_rfl) (by kernel_rfl) (by kernel_rfl) spec_l12DrawBays_de ((spec_l12DrawBays_tie n c0 small1).trans h)
noncomputable def spec_l1In_code : Code := match Try.f93.body with | some c => c | none => .skip
def spec_l1In_ann : Ann := fun id => none
def spec_l1In_Ls (n : Nat) : Nat → Option (LSpec T) := fun id => none
theorem spec_l1In_tie (n : Nat) (x0 : Int) (a1 : Int) (b2 : Int) : evF (T := T) (Phi n 6) (spec_l1In_Ls n) spec_l1In_ann n Try.f93 (sg 93) [vA T 3 x0, vA T 3 a1, vA T 3 b2] spec_l1In_dec = spec_l1In n x0 a1 b2 := by kernel_rfl
theorem spec_l1In_lo (n : Nat) : LoopsOk (T := T) (Phi n 6) (spec_l1In_Ls n) spec_l1In_ann n spec_l1In_code := loopsOk_all (cs := []) (by kernel_rfl) trivial
theorem spec_l1In_ok (n : Nat) : EntOk Try.prog (ents n) (spec_l1In_ent n) := by
  intro hs ar y hg h
  replace h : spec_l1In_D n ar = some y := h
  unfold spec_l1In_D at h
  replace h := ocons_some h
  obtain ⟨a0, r0, rfl, h⟩ := h
  replace h := ocons_some h
  obtain ⟨a1, r1, rfl, h⟩ := h
  replace h := ocons_some h
  obtain ⟨a2, r2, rfl, h⟩ := h
  replace h := onil_some h
  obtain ⟨rfl, h⟩ := h
  obtain ⟨x0, qh0, h⟩ := obind_some h
  obtain ⟨a1, qh1, h⟩ := obind_some h
  obtain ⟨b2, qh2, h⟩ := obind_some h
  rw [argV_eq ok qh0, argV_eq ok qh1, argV_eq ok qh2]
  exact call_of (phiE_nat _ _) hs ok mixed Try.func93 (c := spec_l1In_code) (by kernel_rfl) (spec_l1In_lo n) (by kernel_rfl) (by kernel_rfl) (by kernel_rfl) spec_l1In_de ((spec_l1In_tie n x0 a1 b2).trans h)
noncomputable def spec_l11Letter_code : Code := match Try.f123.body with | some c => c | none => .skip
def spec_l11Letter_2_sv : List Sv := [.one (.int .i64), .one (.int .i64)]
def spec_l11Letter_2_so : List So := []
def spec_l11Letter_2_emb (c : Unit) (x : Int × Int) : EVs T spec_l11Letter_2_sv × EOs T spec_l11Letter_2_so := ((x.1, x.2, ()), ())
def spec_l11Letter_2_prj (y : EVs T spec_l11Letter_2_sv × EOs T spec_l11Letter_2_so) : Unit × (Int × Int) := ((), (y.1.1, y.1.2.1))
def spec_l11Letter_2_b (n : Nat) {R : Type} (K : Ex → Sm.St T → Option R) (c : Unit) (x : Int × Int) (J : (Int × Int) → Option R) : Option R :=
  spec_l11Letter_L2 n (fun (y0 : Int) => K (.exit 0) (stOf (T := T) [3] [] [.one (.int .i64)] [] (y0, ()) ())) (fun z0 z1 => J (z0, z1)) x.1 x.2
def spec_l11Letter_2_sp (n : Nat) : LSpec T := mkSpec T ⟨[], [0, 3], []⟩ spec_l11Letter_2_sv spec_l11Letter_2_so (Unit) (Int × Int) spec_l11Letter_2_emb spec_l11Letter_2_prj (spec_l11Letter_2_b n)
noncomputable def spec_l11Letter_2_c : Code := ((loopCodes spec_l11Letter_code)[0]?).getD .skip
def spec_l11Letter_ann : Ann := fun id => bif Nat.beq id 3000002 then some ⟨[], [3], []⟩ else none
def spec_l11Letter_Ls (n : Nat) : Nat → Option (LSpec T) := fun id => bif Nat.beq id 2 then some (spec_l11Letter_2_sp n) else none
theorem spec_l11Letter_2_le (n : Nat) : LoopEq (T := T) (Phi n 7) (spec_l11Letter_Ls n) spec_l11Letter_ann n spec_l11Letter_2_c (spec_l11Letter_2_sp n) := ⟨mkSpec_dec (fun y => rfl), fun c x => by kernel_rfl, fun K J c x => by kernel_rfl⟩
theorem spec_l11Letter_tie (n : Nat) (k0 : Int) : evF (T := T) (Phi n 7) (spec_l11Letter_Ls n) spec_l11Letter_ann n Try.f123 (sg 123) [vA T 3 k0] spec_l11Letter_dec = spec_l11Letter n k0 := by kernel_rfl
theorem spec_l11Letter_lo (n : Nat) : LoopsOk (T := T) (Phi n 7) (spec_l11Letter_Ls n) spec_l11Letter_ann n spec_l11Letter_code := loopsOk_all (cs := [spec_l11Letter_2_c]) (by kernel_rfl) ⟨⟨_, by kernel_rfl, spec_l11Letter_2_le n⟩, trivial⟩
theorem spec_l11Letter_ok (n : Nat) : EntOk Try.prog (ents n) (spec_l11Letter_ent n) := by
  intro hs ar y hg h
  replace h : spec_l11Letter_D n ar = some y := h
  unfold spec_l11Letter_D at h
  replace h := ocons_some h
  obtain ⟨a0, r0, rfl, h⟩ := h
  replace h := onil_some h
  obtain ⟨rfl, h⟩ := h
  obtain ⟨k0, qh0, h⟩ := obind_some h
  rw [argV_eq ok qh0]
  exact call_of (phiE_nat _ _) hs ok mixed Try.func123 (c := spec_l11Letter_code) (by kernel_rfl) (spec_l11Letter_lo n) (by kernel_rfl) (by kernel_rfl) (by kernel_rfl) spec_l11Letter_de ((spec_l11Letter_tie n k0).trans h)
noncomputable def spec_CheckDigit_code : Code := match Try.f115.body with | some c => c | none => .skip
def spec_CheckDigit_5_sv : List Sv := [.one (.str), .one (.int .i64), .one (.int .i64)]
def spec_CheckDigit_5_so : List So := []
def spec_CheckDigit_5_emb (c : ByteArray) (x : Int × Int) : EVs T spec_CheckDigit_5_sv × EOs T spec_CheckDigit_5_so := ((c, x.1, x.2, ()), ())
def spec_CheckDigit_5_prj (y : EVs T spec_CheckDigit_5_sv × EOs T spec_CheckDigit_5_so) : ByteArray × (Int × Int) := ((y.1.1), (y.1.2.1, y.1.2.2.1))
def spec_CheckDigit_5_b (n : Nat) {R : Type} (K : Ex → Sm.St T → Option R) (c : ByteArray) (x : Int × Int) (J : (Int × Int) → Option R) : Option R :=
  spec_CheckDigit_L5 n (fun (y0 : Int) => K (.exit 0) (stOf (T := T) [3] [] [.one (.int .i64)] [] (y0, ()) ())) (fun (y0 : Int) => K .ret (stOf (T := T) [2] [] [.one (.int .i64)] [] (y0, ()) ())) (fun z0 z1 => J (z0, z1)) c x.1 x.2
def spec_CheckDigit_5_sp (n : Nat) : LSpec T := mkSpec T ⟨[], [0, 3, 4], []⟩ spec_CheckDigit_5_sv spec_CheckDigit_5_so (ByteArray) (Int × Int) spec_CheckDigit_5_emb spec_CheckDigit_5_prj (spec_CheckDigit_5_b n)
noncomputable def spec_CheckDigit_5_c : Code := ((loopCodes spec_CheckDigit_code)[0]?).getD .skip
def spec_CheckDigit_ann : Ann := fun id => bif Nat.beq id 3000005 then some ⟨[], [3], []⟩ else bif Nat.beq id 2000005 then some ⟨[], [2], []⟩ else none
def spec_CheckDigit_Ls (n : Nat) : Nat → Option (LSpec T) := fun id => bif Nat.beq id 5 then some (spec_CheckDigit_5_sp n) else none
theorem spec_CheckDigit_5_le (n : Nat) : LoopEq (T := T) (Phi n 8) (spec_CheckDigit_Ls n) spec_CheckDigit_ann n spec_CheckDigit_5_c (spec_CheckDigit_5_sp n) := ⟨mkSpec_dec (fun y => rfl), fun c x => by kernel_rfl, fun K J c x => by kernel_rfl⟩
theorem spec_CheckDigit_tie (n : Nat) (name0 : ByteArray) : evF (T := T) (Phi n 8) (spec_CheckDigit_Ls n) spec_CheckDigit_ann n Try.f115 (sg 115) [vA T 9 name0] spec_CheckDigit_dec = spec_CheckDigit n name0 := by kernel_rfl
theorem spec_CheckDigit_lo (n : Nat) : LoopsOk (T := T) (Phi n 8) (spec_CheckDigit_Ls n) spec_CheckDigit_ann n spec_CheckDigit_code := loopsOk_all (cs := [spec_CheckDigit_5_c]) (by kernel_rfl) ⟨⟨_, by kernel_rfl, spec_CheckDigit_5_le n⟩, trivial⟩
theorem spec_CheckDigit_ok (n : Nat) : EntOk Try.prog (ents n) (spec_CheckDigit_ent n) := by
  intro hs ar y hg h
  replace h : spec_CheckDigit_D n ar = some y := h
  unfold spec_CheckDigit_D at h
  replace h := ocons_some h
  obtain ⟨a0, r0, rfl, h⟩ := h
  replace h := onil_some h
  obtain ⟨rfl, h⟩ := h
  obtain ⟨name0, qh0, h⟩ := obind_some h
  rw [argV_eq ok qh0]
  exact call_of (phiE_nat _ _) hs ok mixed Try.func115 (c := spec_CheckDigit_code) (by kernel_rfl) (spec_CheckDigit_lo n) (by kernel_rfl) (by kernel_rfl) (by kernel_rfl) spec_CheckDigit_de ((spec_CheckDigit_tie n name0).trans h)
noncomputable def spec_l11DrawName_code : Code := match Try.f106.body with | some c => c | none => .skip
def spec_l11DrawName_3_sv : List Sv := [.one (.ptr 4503599627370496 0 0), .one (.own 3000000 5 false), .one (.int .i64)]
def spec_l11DrawName_3_so : List So := [.var [.arr 5, .int .i64, .int .i64], .arr 5 false]
def spec_l11DrawName_3_emb (c : Unit) (x : Int × Sl1Cur × List Int) : EVs T spec_l11DrawName_3_sv × EOs T spec_l11DrawName_3_so := (((), (), x.1, ()), ((x.2.1.b, x.2.1.i, x.2.1.h, ()), x.2.2, ()))
def spec_l11DrawName_3_prj (y : EVs T spec_l11DrawName_3_sv × EOs T spec_l11DrawName_3_so) : Unit × (Int × Sl1Cur × List Int) := ((), (y.1.2.2.1, ((⟨y.2.1.1, y.2.1.2.1, y.2.1.2.2.1⟩ : Sl1Cur) : Sl1Cur), y.2.2.1))
def spec_l11DrawName_3_b (n : Nat) {R : Type} (K : Ex → Sm.St T → Option R) (c : Unit) (x : Int × Sl1Cur × List Int) (J : (Int × Sl1Cur × List Int) → Option R) : Option R :=
  spec_l11DrawName_L3 n (fun (y0 : Sl1Cur) (y1 : List Int) => K (.exit 0) (stOf (T := T) [0, 3] [4503599627370496, 3000000] [.one (.ptr 4503599627370496 0 0), .one (.own 3000000 5 false)] [.var [.arr 5, .int .i64, .int .i64], .arr 5 false] ((), (), ()) ((y0.b, y0.i, y0.h, ()), y1, ()))) (fun z0 z1 z2 => J (z0, z1, z2)) x.1 x.2.1 x.2.2
def spec_l11DrawName_3_sp (n : Nat) : LSpec T := mkSpec T ⟨[((.reg 3), 3000000, 5)], [0, 3, 4], [4503599627370496, 3000000]⟩ spec_l11DrawName_3_sv spec_l11DrawName_3_so (Unit) (Int × Sl1Cur × List Int) spec_l11DrawName_3_emb spec_l11DrawName_3_prj (spec_l11DrawName_3_b n)
noncomputable def spec_l11DrawName_3_c : Code := ((loopCodes spec_l11DrawName_code)[0]?).getD .skip
def spec_l11DrawName_7_sv : List Sv := [.one (.ptr 4503599627370496 0 0), .one (.own 3000000 5 false), .one (.int .i64)]
def spec_l11DrawName_7_so : List So := [.var [.arr 5, .int .i64, .int .i64], .arr 5 false]
def spec_l11DrawName_7_emb (c : Unit) (x : Int × Sl1Cur × List Int) : EVs T spec_l11DrawName_7_sv × EOs T spec_l11DrawName_7_so := (((), (), x.1, ()), ((x.2.1.b, x.2.1.i, x.2.1.h, ()), x.2.2, ()))
def spec_l11DrawName_7_prj (y : EVs T spec_l11DrawName_7_sv × EOs T spec_l11DrawName_7_so) : Unit × (Int × Sl1Cur × List Int) := ((), (y.1.2.2.1, ((⟨y.2.1.1, y.2.1.2.1, y.2.1.2.2.1⟩ : Sl1Cur) : Sl1Cur), y.2.2.1))
def spec_l11DrawName_7_b (n : Nat) {R : Type} (K : Ex → Sm.St T → Option R) (c : Unit) (x : Int × Sl1Cur × List Int) (J : (Int × Sl1Cur × List Int) → Option R) : Option R :=
  spec_l11DrawName_L7 n (fun (y0 : List Int) (y1 : Sl1Cur) => K (.exit 2) (stOf (T := T) [3] [3000000, 4503599627370496] [.one (.own 3000000 5 false)] [.arr 5 false, .var [.arr 5, .int .i64, .int .i64]] ((), ()) (y0, (y1.b, y1.i, y1.h, ()), ()))) (fun z0 z1 z2 => J (z0, z1, z2)) x.1 x.2.1 x.2.2
def spec_l11DrawName_7_sp (n : Nat) : LSpec T := mkSpec T ⟨[((.reg 3), 3000000, 5)], [0, 3, 5], [4503599627370496, 3000000]⟩ spec_l11DrawName_7_sv spec_l11DrawName_7_so (Unit) (Int × Sl1Cur × List Int) spec_l11DrawName_7_emb spec_l11DrawName_7_prj (spec_l11DrawName_7_b n)
noncomputable def spec_l11DrawName_7_c : Code := ((loopCodes spec_l11DrawName_code)[1]?).getD .skip
def spec_l11DrawName_ann : Ann := fun id => bif Nat.beq id 3000003 then some ⟨[((.reg 3), 3000000, 5)], [0, 3], [4503599627370496, 3000000]⟩ else bif Nat.beq id 5000007 then some ⟨[((.reg 3), 3000000, 5)], [3], [3000000, 4503599627370496]⟩ else none
def spec_l11DrawName_Ls (n : Nat) : Nat → Option (LSpec T) := fun id => bif Nat.beq id 3 then some (spec_l11DrawName_3_sp n) else bif Nat.beq id 7 then some (spec_l11DrawName_7_sp n) else none
theorem spec_l11DrawName_3_le (n : Nat) : LoopEq (T := T) (Phi n 9) (spec_l11DrawName_Ls n) spec_l11DrawName_ann n spec_l11DrawName_3_c (spec_l11DrawName_3_sp n) := ⟨mkSpec_dec (fun y => rfl), fun c x => by kernel_rfl, fun K J c x => by kernel_rfl⟩
theorem spec_l11DrawName_7_le (n : Nat) : LoopEq (T := T) (Phi n 9) (spec_l11DrawName_Ls n) spec_l11DrawName_ann n spec_l11DrawName_7_c (spec_l11DrawName_7_sp n) := ⟨mkSpec_dec (fun y => rfl), fun c x => by kernel_rfl, fun K J c x => by kernel_rfl⟩
theorem spec_l11DrawName_tie (n : Nat) (c0 : Sl1Cur) : evF (T := T) (Phi n 9) (spec_l11DrawName_Ls n) spec_l11DrawName_ann n Try.f106 (sg 106) [.ptr 120 c0] spec_l11DrawName_dec = spec_l11DrawName n c0 := by kernel_rfl
theorem spec_l11DrawName_lo (n : Nat) : LoopsOk (T := T) (Phi n 9) (spec_l11DrawName_Ls n) spec_l11DrawName_ann n spec_l11DrawName_code := loopsOk_all (cs := [spec_l11DrawName_3_c, spec_l11DrawName_7_c]) (by kernel_rfl) ⟨⟨_, by kernel_rfl, spec_l11DrawName_3_le n⟩, ⟨_, by kernel_rfl, spec_l11DrawName_7_le n⟩, trivial⟩
theorem spec_l11DrawName_ok (n : Nat) : EntOk Try.prog (ents n) (spec_l11DrawName_ent n) := by
  intro hs ar y hg h
  replace h : spec_l11DrawName_D n ar = some y := h
  unfold spec_l11DrawName_D at h
  replace h := ocons_some h
  obtain ⟨a0, r0, rfl, h⟩ := h
  replace h := onil_some h
  obtain ⟨rfl, h⟩ := h
  obtain ⟨c0, qh0, h⟩ := obind_some h
  rw [argP_eq qh0]
  exact call_of (phiE_nat _ _) hs ok mixed Try.func106 (c := spec_l11DrawName_code) (by kernel_rfl) (spec_l11DrawName_lo n) (by kernel_rfl) (by kernel_rfl) (by kernel_rfl) spec_l11DrawName_de ((spec_l11DrawName_tie n c0).trans h)
noncomputable def spec_l1Once_code : Code := match Try.f86.body with | some c => c | none => .skip
def spec_l1Once_ann : Ann := fun id => none
def spec_l1Once_Ls (n : Nat) : Nat → Option (LSpec T) := fun id => none
theorem spec_l1Once_tie (n : Nat) (c0 : Sl1Cur) (n1 : Int) : evF (T := T) (Phi n 10) (spec_l1Once_Ls n) spec_l1Once_ann n Try.f86 (sg 86) [.ptr 120 c0, vA T 3 n1] spec_l1Once_dec = spec_l1Once n c0 n1 := by kernel_rfl
theorem spec_l1Once_lo (n : Nat) : LoopsOk (T := T) (Phi n 10) (spec_l1Once_Ls n) spec_l1Once_ann n spec_l1Once_code := loopsOk_all (cs := []) (by kernel_rfl) trivial
theorem spec_l1Once_ok (n : Nat) : EntOk Try.prog (ents n) (spec_l1Once_ent n) := by
  intro hs ar y hg h
  replace h : spec_l1Once_D n ar = some y := h
  unfold spec_l1Once_D at h
  replace h := ocons_some h
  obtain ⟨a0, r0, rfl, h⟩ := h
  replace h := ocons_some h
  obtain ⟨a1, r1, rfl, h⟩ := h
  replace h := onil_some h
  obtain ⟨rfl, h⟩ := h
  obtain ⟨c0, qh0, h⟩ := obind_some h
  obtain ⟨n1, qh1, h⟩ := obind_some h
  rw [argP_eq qh0, argV_eq ok qh1]
  exact call_of (phiE_nat _ _) hs ok mixed Try.func86 (c := spec_l1Once_code) (by kernel_rfl) (spec_l1Once_lo n) (by kernel_rfl) (by kernel_rfl) (by kernel_rfl) spec_l1Once_de ((spec_l1Once_tie n c0 n1).trans h)
noncomputable def spec_l11Draw_code : Code := match Try.f63.body with | some c => c | none => .skip
def spec_l11Draw_ann : Ann := fun id => none
def spec_l11Draw_Ls (n : Nat) : Nat → Option (LSpec T) := fun id => none
theorem spec_l11Draw_tie (n : Nat) (c0 : Sl1Cur) : evF (T := T) (Phi n 11) (spec_l11Draw_Ls n) spec_l11Draw_ann n Try.f63 (sg 63) [.ptr 120 c0] spec_l11Draw_dec = spec_l11Draw n c0 := by kernel_rfl
theorem spec_l11Draw_lo (n : Nat) : LoopsOk (T := T) (Phi n 11) (spec_l11Draw_Ls n) spec_l11Draw_ann n spec_l11Draw_code := loopsOk_all (cs := []) (by kernel_rfl) trivial
theorem spec_l11Draw_ok (n : Nat) : EntOk Try.prog (ents n) (spec_l11Draw_ent n) := by
  intro hs ar y hg h
  replace h : spec_l11Draw_D n ar = some y := h
  unfold spec_l11Draw_D at h
  replace h := ocons_some h
  obtain ⟨a0, r0, rfl, h⟩ := h
  replace h := onil_some h
  obtain ⟨rfl, h⟩ := h
  obtain ⟨c0, qh0, h⟩ := obind_some h
  rw [argP_eq qh0]
  exact call_of (phiE_nat _ _) hs ok mixed Try.func63 (c := spec_l11Draw_code) (by kernel_rfl) (spec_l11Draw_lo n) (by kernel_rfl) (by kernel_rfl) (by kernel_rfl) spec_l11Draw_de ((spec_l11Draw_tie n c0).trans h)
noncomputable def spec_l1Pick_code : Code := match Try.f119.body with | some c => c | none => .skip
def spec_l1Pick_ann : Ann := fun id => none
def spec_l1Pick_Ls (n : Nat) : Nat → Option (LSpec T) := fun id => none
theorem spec_l1Pick_tie (n : Nat) (c0 : Sl1Cur) (list1 : List ByteArray) : evF (T := T) (Phi n 12) (spec_l1Pick_Ls n) spec_l1Pick_ann n Try.f119 (sg 119) [.ptr 120 c0, vA T 151 list1] spec_l1Pick_dec = spec_l1Pick n c0 list1 := by kernel_rfl
theorem spec_l1Pick_lo (n : Nat) : LoopsOk (T := T) (Phi n 12) (spec_l1Pick_Ls n) spec_l1Pick_ann n spec_l1Pick_code := loopsOk_all (cs := []) (by kernel_rfl) trivial
theorem spec_l1Pick_ok (n : Nat) : EntOk Try.prog (ents n) (spec_l1Pick_ent n) := by
  intro hs ar y hg h
  replace h : spec_l1Pick_D n ar = some y := h
  unfold spec_l1Pick_D at h
  replace h := ocons_some h
  obtain ⟨a0, r0, rfl, h⟩ := h
  replace h := ocons_some h
  obtain ⟨a1, r1, rfl, h⟩ := h
  replace h := onil_some h
  obtain ⟨rfl, h⟩ := h
  obtain ⟨c0, qh0, h⟩ := obind_some h
  obtain ⟨list1, qh1, h⟩ := obind_some h
  rw [argP_eq qh0, argV_eq ok qh1]
  exact call_of (phiE_nat _ _) hs ok mixed Try.func119 (c := spec_l1Pick_code) (by kernel_rfl) (spec_l1Pick_lo n) (by kernel_rfl) (by kernel_rfl) (by kernel_rfl) spec_l1Pick_de ((spec_l1Pick_tie n c0 list1).trans h)
noncomputable def spec_l11DrawText_code : Code := match Try.f107.body with | some c => c | none => .skip
def spec_l11DrawText_ann : Ann := fun id => none
def spec_l11DrawText_Ls (n : Nat) : Nat → Option (LSpec T) := fun id => none
theorem spec_l11DrawText_tie (n : Nat) (c0 : Sl1Cur) : evF (T := T) (Phi n 13) (spec_l11DrawText_Ls n) spec_l11DrawText_ann n Try.f107 (sg 107) [.ptr 120 c0] spec_l11DrawText_dec = spec_l11DrawText n c0 := by kernel_rfl
theorem spec_l11DrawText_lo (n : Nat) : LoopsOk (T := T) (Phi n 13) (spec_l11DrawText_Ls n) spec_l11DrawText_ann n spec_l11DrawText_code := loopsOk_all (cs := []) (by kernel_rfl) trivial
theorem spec_l11DrawText_ok (n : Nat) : EntOk Try.prog (ents n) (spec_l11DrawText_ent n) := by
  intro hs ar y hg h
  replace h : spec_l11DrawText_D n ar = some y := h
  unfold spec_l11DrawText_D at h
  replace h := ocons_some h
  obtain ⟨a0, r0, rfl, h⟩ := h
  replace h := onil_some h
  obtain ⟨rfl, h⟩ := h
  obtain ⟨c0, qh0, h⟩ := obind_some h
  rw [argP_eq qh0]
  exact call_of (phiE_nat _ _) hs ok mixed Try.func107 (c := spec_l11DrawText_code) (by kernel_rfl) (spec_l11DrawText_lo n) (by kernel_rfl) (by kernel_rfl) (by kernel_rfl) spec_l11DrawText_de ((spec_l11DrawText_tie n c0).trans h)
noncomputable def spec_l11DrawAny_code : Code := match Try.f64.body with | some c => c | none => .skip
def spec_l11DrawAny_ann : Ann := fun id => none
def spec_l11DrawAny_Ls (n : Nat) : Nat → Option (LSpec T) := fun id => none
theorem spec_l11DrawAny_tie (n : Nat) (c0 : Sl1Cur) : evF (T := T) (Phi n 14) (spec_l11DrawAny_Ls n) spec_l11DrawAny_ann n Try.f64 (sg 64) [.ptr 120 c0] spec_l11DrawAny_dec = spec_l11DrawAny n c0 := by kernel_rfl
theorem spec_l11DrawAny_lo (n : Nat) : LoopsOk (T := T) (Phi n 14) (spec_l11DrawAny_Ls n) spec_l11DrawAny_ann n spec_l11DrawAny_code := loopsOk_all (cs := []) (by kernel_rfl) trivial
theorem spec_l11DrawAny_ok (n : Nat) : EntOk Try.prog (ents n) (spec_l11DrawAny_ent n) := by
  intro hs ar y hg h
  replace h : spec_l11DrawAny_D n ar = some y := h
  unfold spec_l11DrawAny_D at h
  replace h := ocons_some h
  obtain ⟨a0, r0, rfl, h⟩ := h
  replace h := onil_some h
  obtain ⟨rfl, h⟩ := h
  obtain ⟨c0, qh0, h⟩ := obind_some h
  rw [argP_eq qh0]
  exact call_of (phiE_nat _ _) hs ok mixed Try.func64 (c := spec_l11DrawAny_code) (by kernel_rfl) (spec_l11DrawAny_lo n) (by kernel_rfl) (by kernel_rfl) (by kernel_rfl) spec_l11DrawAny_de ((spec_l11DrawAny_tie n c0).trans h)
noncomputable def spec_DrawFewest_code : Code := match Try.f24.body with | some c => c | none => .skip
def spec_DrawFewest_5_sv : List Sv := [.one (.ptr 80 0 0), .one (.own 3000000 96 false), .one (.own 3000001 63 false), .one (.int .i64)]
def spec_DrawFewest_5_so : List So := [.var [.arr 5, .int .i64, .int .i64], .arr 96 false, .arr 63 false]
def spec_DrawFewest_5_emb (c : List SHatch) (x : Int × Sl1Cur × List SBox) : EVs T spec_DrawFewest_5_sv × EOs T spec_DrawFewest_5_so := (((), (), (), x.1, ()), ((x.2.1.b, x.2.1.i, x.2.1.h, ()), c, x.2.2, ()))
def spec_DrawFewest_5_prj (y : EVs T spec_DrawFewest_5_sv × EOs T spec_DrawFewest_5_so) : List SHatch × (Int × Sl1Cur × List SBox) := ((y.2.2.1), (y.1.2.2.2.1, ((⟨y.2.1.1, y.2.1.2.1, y.2.1.2.2.1⟩ : Sl1Cur) : Sl1Cur), y.2.2.2.1))
def spec_DrawFewest_5_b (n : Nat) {R : Type} (K : Ex → Sm.St T → Option R) (c : List SHatch) (x : Int × Sl1Cur × List SBox) (J : (Int × Sl1Cur × List SBox) → Option R) : Option R :=
  spec_DrawFewest_L5 n (fun (y0 : Sl1Cur) (y2 : List SBox) => K (.exit 0) (stOf (T := T) [4, 5, 6] [80, 3000000, 3000001] [.one (.ptr 80 0 0), .one (.own 3000000 96 false), .one (.own 3000001 63 false)] [.var [.arr 5, .int .i64, .int .i64], .arr 96 false, .arr 63 false] ((), (), (), ()) ((y0.b, y0.i, y0.h, ()), c, y2, ()))) (fun z0 z1 z2 => J (z0, z1, z2)) x.1 x.2.1 c x.2.2
def spec_DrawFewest_5_sp (n : Nat) : LSpec T := mkSpec T ⟨[((.reg 5), 3000000, 96), ((.reg 6), 3000001, 63)], [4, 5, 6, 7], [80, 3000000, 3000001]⟩ spec_DrawFewest_5_sv spec_DrawFewest_5_so (List SHatch) (Int × Sl1Cur × List SBox) spec_DrawFewest_5_emb spec_DrawFewest_5_prj (spec_DrawFewest_5_b n)
noncomputable def spec_DrawFewest_5_c : Code := ((loopCodes spec_DrawFewest_code)[0]?).getD .skip
def spec_DrawFewest_ann : Ann := fun id => bif Nat.beq id 3000005 then some ⟨[((.reg 5), 3000000, 96), ((.reg 6), 3000001, 63)], [4, 5, 6], [80, 3000000, 3000001]⟩ else none
def spec_DrawFewest_Ls (n : Nat) : Nat → Option (LSpec T) := fun id => bif Nat.beq id 5 then some (spec_DrawFewest_5_sp n) else none
theorem spec_DrawFewest_5_le (n : Nat) : LoopEq (T := T) (Phi n 15) (spec_DrawFewest_Ls n) spec_DrawFewest_ann n spec_DrawFewest_5_c (spec_DrawFewest_5_sp n) := ⟨mkSpec_dec (fun y => rfl), fun c x => by kernel_rfl, fun K J c x => by kernel_rfl⟩
theorem spec_DrawFewest_tie (n : Nat) (code0 : List Int) : evF (T := T) (Phi n 15) (spec_DrawFewest_Ls n) spec_DrawFewest_ann n Try.f24 (sg 24) [vA T 22 code0] spec_DrawFewest_dec = spec_DrawFewest n code0 := by kernel_rfl
theorem spec_DrawFewest_lo (n : Nat) : LoopsOk (T := T) (Phi n 15) (spec_DrawFewest_Ls n) spec_DrawFewest_ann n spec_DrawFewest_code := loopsOk_all (cs := [spec_DrawFewest_5_c]) (by kernel_rfl) ⟨⟨_, by kernel_rfl, spec_DrawFewest_5_le n⟩, trivial⟩
theorem spec_DrawFewest_ok (n : Nat) : EntOk Try.prog (ents n) (spec_DrawFewest_ent n) := by
  intro hs ar y hg h
  replace h : spec_DrawFewest_D n ar = some y := h
  unfold spec_DrawFewest_D at h
  replace h := ocons_some h
  obtain ⟨a0, r0, rfl, h⟩ := h
  replace h := onil_some h
  obtain ⟨rfl, h⟩ := h
  obtain ⟨code0, qh0, h⟩ := obind_some h
  rw [argV_eq ok qh0]
  exact call_of (phiE_nat _ _) hs ok mixed Try.func24 (c := spec_DrawFewest_code) (by kernel_rfl) (spec_DrawFewest_lo n) (by kernel_rfl) (by kernel_rfl) (by kernel_rfl) spec_DrawFewest_de ((spec_DrawFewest_tie n code0).trans h)
noncomputable def impl_in_code : Code := match Try.f69.body with | some c => c | none => .skip
def impl_in_ann : Ann := fun id => none
def impl_in_Ls (n : Nat) : Nat → Option (LSpec T) := fun id => none
theorem impl_in_tie (n : Nat) (n0 : Int) (least1 : Int) (most2 : Int) : evF (T := T) (Phi n 16) (impl_in_Ls n) impl_in_ann n Try.f69 (sg 69) [vA T 3 n0, vA T 3 least1, vA T 3 most2] impl_in_dec = impl_in n n0 least1 most2 := by kernel_rfl
theorem impl_in_lo (n : Nat) : LoopsOk (T := T) (Phi n 16) (impl_in_Ls n) impl_in_ann n impl_in_code := loopsOk_all (cs := []) (by kernel_rfl) trivial
theorem impl_in_ok (n : Nat) : EntOk Try.prog (ents n) (impl_in_ent n) := by
  intro hs ar y hg h
  replace h : impl_in_D n ar = some y := h
  unfold impl_in_D at h
  replace h := ocons_some h
  obtain ⟨a0, r0, rfl, h⟩ := h
  replace h := ocons_some h
  obtain ⟨a1, r1, rfl, h⟩ := h
  replace h := ocons_some h
  obtain ⟨a2, r2, rfl, h⟩ := h
  replace h := onil_some h
  obtain ⟨rfl, h⟩ := h
  obtain ⟨n0, qh0, h⟩ := obind_some h
  obtain ⟨least1, qh1, h⟩ := obind_some h
  obtain ⟨most2, qh2, h⟩ := obind_some h
  rw [argV_eq ok qh0, argV_eq ok qh1, argV_eq ok qh2]
  exact call_of (phiE_nat _ _) hs ok mixed Try.func69 (c := impl_in_code) (by kernel_rfl) (impl_in_lo n) (by kernel_rfl) (by kernel_rfl) (by kernel_rfl) impl_in_de ((impl_in_tie n n0 least1 most2).trans h)
noncomputable def impl_HatchesOk_1_code : Code := match Try.f99.body with | some c => c | none => .skip
def impl_HatchesOk_1_ann : Ann := fun id => none
def impl_HatchesOk_1_Ls (n : Nat) : Nat → Option (LSpec T) := fun id => none
theorem impl_HatchesOk_1_tie (n : Nat) (h0 : SHatch) : evF (T := T) (Phi n 17) (impl_HatchesOk_1_Ls n) impl_HatchesOk_1_ann n Try.f99 (sg 99) [vA T 96 h0] impl_HatchesOk_1_dec = impl_HatchesOk_1 n h0 := by kernel_rfl
theorem impl_HatchesOk_1_lo (n : Nat) : LoopsOk (T := T) (Phi n 17) (impl_HatchesOk_1_Ls n) impl_HatchesOk_1_ann n impl_HatchesOk_1_code := loopsOk_all (cs := []) (by kernel_rfl) trivial
theorem impl_HatchesOk_1_ok (n : Nat) : EntOk Try.prog (ents n) (impl_HatchesOk_1_ent n) := by
  intro hs ar y hg h
  replace h : impl_HatchesOk_1_D n ar = some y := h
  unfold impl_HatchesOk_1_D at h
  replace h := ocons_some h
  obtain ⟨a0, r0, rfl, h⟩ := h
  replace h := onil_some h
  obtain ⟨rfl, h⟩ := h
  obtain ⟨h0, qh0, h⟩ := obind_some h
  rw [argV_eq ok qh0]
  exact call_of (phiE_nat _ _) hs ok mixed Try.func99 (c := impl_HatchesOk_1_code) (by kernel_rfl) (impl_HatchesOk_1_lo n) (by kernel_rfl) (by kernel_rfl) (by kernel_rfl) impl_HatchesOk_1_de ((impl_HatchesOk_1_tie n h0).trans h)
noncomputable def sIndex_HatchesOk_1_code : Code := match Try.f117.body with | some c => c | none => .skip
def sIndex_HatchesOk_1_2_sv : List Sv := [.one (.arr 96), .one (.fn 99 []), .one (.int .i64), .one (.int .i64)]
def sIndex_HatchesOk_1_2_so : List So := []
def sIndex_HatchesOk_1_2_emb (c : List SHatch × Int) (x : Int) : EVs T sIndex_HatchesOk_1_2_sv × EOs T sIndex_HatchesOk_1_2_so := ((c.1, (), c.2, x, ()), ())
def sIndex_HatchesOk_1_2_prj (y : EVs T sIndex_HatchesOk_1_2_sv × EOs T sIndex_HatchesOk_1_2_so) : (List SHatch × Int) × Int := ((y.1.1, y.1.2.2.1), (y.1.2.2.2.1))
def sIndex_HatchesOk_1_2_b (n : Nat) {R : Type} (K : Ex → Sm.St T → Option R) (c : List SHatch × Int) (x : Int) (J : Int → Option R) : Option R :=
  sIndex_HatchesOk_1_L2 n (K (.exit 0) (stOf (T := T) [] [] [] [] () ())) (fun (y0 : Int) => K .ret (stOf (T := T) [4] [] [.one (.int .i64)] [] (y0, ()) ())) J c.1 c.2 x
def sIndex_HatchesOk_1_2_sp (n : Nat) : LSpec T := mkSpec T ⟨[], [0, 1, 7, 8], []⟩ sIndex_HatchesOk_1_2_sv sIndex_HatchesOk_1_2_so (List SHatch × Int) (Int) sIndex_HatchesOk_1_2_emb sIndex_HatchesOk_1_2_prj (sIndex_HatchesOk_1_2_b n)
noncomputable def sIndex_HatchesOk_1_2_c : Code := ((loopCodes sIndex_HatchesOk_1_code)[0]?).getD .skip
def sIndex_HatchesOk_1_ann : Ann := fun id => bif Nat.beq id 3000002 then some ⟨[], [], []⟩ else bif Nat.beq id 2000002 then some ⟨[], [4], []⟩ else none
def sIndex_HatchesOk_1_Ls (n : Nat) : Nat → Option (LSpec T) := fun id => bif Nat.beq id 2 then some (sIndex_HatchesOk_1_2_sp n) else none
theorem sIndex_HatchesOk_1_2_le (n : Nat) : LoopEq (T := T) (Phi n 18) (sIndex_HatchesOk_1_Ls n) sIndex_HatchesOk_1_ann n sIndex_HatchesOk_1_2_c (sIndex_HatchesOk_1_2_sp n) := ⟨mkSpec_dec (fun y => rfl), fun c x => by kernel_rfl, fun K J c x => by kernel_rfl⟩
theorem sIndex_HatchesOk_1_tie (n : Nat) (s0 : List SHatch) : evF (T := T) (Phi n 18) (sIndex_HatchesOk_1_Ls n) sIndex_HatchesOk_1_ann n Try.f117 (sg 117) [vA T 47 s0, .fn 99 []] sIndex_HatchesOk_1_dec = sIndex_HatchesOk_1 n s0 := by kernel_rfl
theorem sIndex_HatchesOk_1_lo (n : Nat) : LoopsOk (T := T) (Phi n 18) (sIndex_HatchesOk_1_Ls n) sIndex_HatchesOk_1_ann n sIndex_HatchesOk_1_code := loopsOk_all (cs := [sIndex_HatchesOk_1_2_c]) (by kernel_rfl) ⟨⟨_, by kernel_rfl, sIndex_HatchesOk_1_2_le n⟩, trivial⟩
theorem sIndex_HatchesOk_1_ok (n : Nat) : EntOk Try.prog (ents n) (sIndex_HatchesOk_1_ent n) := by
  intro hs ar y hg h
  replace h : sIndex_HatchesOk_1_D n ar = some y := h
  unfold sIndex_HatchesOk_1_D at h
  split at h
  · obtain ⟨s0, qh0, h⟩ := obind_some h
    rw [argV_eq ok qh0] at hg ⊢
    cases (show [_] = [99] from natsEq_eq hg)
    exact call_of (phiE_nat _ _) hs ok mixed Try.func117 (c := sIndex_HatchesOk_1_code) (by kernel_rfl) (sIndex_HatchesOk_1_lo n) (by kernel_rfl) (by kernel_rfl) (by kernel_rfl) sIndex_HatchesOk_1_de ((sIndex_HatchesOk_1_tie n s0).trans h)
  · cases h
noncomputable def sContains_HatchesOk_1_code : Code := match Try.f98.body with | some c => c | none => .skip
def sContains_HatchesOk_1_ann : Ann := fun id => none
def sContains_HatchesOk_1_Ls (n : Nat) : Nat → Option (LSpec T) := fun id => none
theorem sContains_HatchesOk_1_tie (n : Nat) (s0 : List SHatch) : evF (T := T) (Phi n 19) (sContains_HatchesOk_1_Ls n) sContains_HatchesOk_1_ann n Try.f98 (sg 98) [vA T 47 s0, .fn 99 []] sContains_HatchesOk_1_dec = sContains_HatchesOk_1 n s0 := by kernel_rfl
theorem sContains_HatchesOk_1_lo (n : Nat) : LoopsOk (T := T) (Phi n 19) (sContains_HatchesOk_1_Ls n) sContains_HatchesOk_1_ann n sContains_HatchesOk_1_code := loopsOk_all (cs := []) (by kernel_rfl) trivial
theorem sContains_HatchesOk_1_ok (n : Nat) : EntOk Try.prog (ents n) (sContains_HatchesOk_1_ent n) := by
  intro hs ar y hg h
  replace h : sContains_HatchesOk_1_D n ar = some y := h
  unfold sContains_HatchesOk_1_D at h
  split at h
  · obtain ⟨s0, qh0, h⟩ := obind_some h
    rw [argV_eq ok qh0] at hg ⊢
    cases (show [_] = [99] from natsEq_eq hg)
    exact call_of (phiE_nat _ _) hs ok mixed Try.func98 (c := sContains_HatchesOk_1_code) (by kernel_rfl) (sContains_HatchesOk_1_lo n) (by kernel_rfl) (by kernel_rfl) (by kernel_rfl) sContains_HatchesOk_1_de ((sContains_HatchesOk_1_tie n s0).trans h)
  · cases h
noncomputable def impl_HatchesOk_code : Code := match Try.f49.body with | some c => c | none => .skip
def impl_HatchesOk_ann : Ann := fun id => none
def impl_HatchesOk_Ls (n : Nat) : Nat → Option (LSpec T) := fun id => none
theorem impl_HatchesOk_tie (n : Nat) (bays0 : List SHatch) : evF (T := T) (Phi n 20) (impl_HatchesOk_Ls n) impl_HatchesOk_ann n Try.f49 (sg 49) [vA T 47 bays0] impl_HatchesOk_dec = impl_HatchesOk n bays0 := by kernel_rfl
theorem impl_HatchesOk_lo (n : Nat) : LoopsOk (T := T) (Phi n 20) (impl_HatchesOk_Ls n) impl_HatchesOk_ann n impl_HatchesOk_code := loopsOk_all (cs := []) (by kernel_rfl) trivial
theorem impl_HatchesOk_ok (n : Nat) : EntOk Try.prog (ents n) (impl_HatchesOk_ent n) := by
  intro hs ar y hg h
  replace h : impl_HatchesOk_D n ar = some y := h
  unfold impl_HatchesOk_D at h
  replace h := ocons_some h
  obtain ⟨a0, r0, rfl, h⟩ := h
  replace h := onil_some h
  obtain ⟨rfl, h⟩ := h
  obtain ⟨bays0, qh0, h⟩ := obind_some h
  rw [argV_eq ok qh0]
  exact call_of (phiE_nat _ _) hs ok mixed Try.func49 (c := impl_HatchesOk_code) (by kernel_rfl) (impl_HatchesOk_lo n) (by kernel_rfl) (by kernel_rfl) (by kernel_rfl) impl_HatchesOk_de ((impl_HatchesOk_tie n bays0).trans h)
noncomputable def impl_valueOf_code : Code := match Try.f128.body with | some c => c | none => .skip
def impl_valueOf_3_sv : List Sv := [.one (.int .u8), .one (.int .i64), .one (.int .u8)]
def impl_valueOf_3_so : List So := []
def impl_valueOf_3_emb (c : Int) (x : Int × Int) : EVs T impl_valueOf_3_sv × EOs T impl_valueOf_3_so := ((c, x.1, x.2, ()), ())
def impl_valueOf_3_prj (y : EVs T impl_valueOf_3_sv × EOs T impl_valueOf_3_so) : Int × (Int × Int) := ((y.1.1), (y.1.2.1, y.1.2.2.1))
def impl_valueOf_3_b (n : Nat) {R : Type} (K : Ex → Sm.St T → Option R) (c : Int) (x : Int × Int) (J : (Int × Int) → Option R) : Option R :=
  impl_valueOf_L3 n (fun (y0 : Int) => K (.exit 0) (stOf (T := T) [3] [] [.one (.int .i64)] [] (y0, ()) ())) (fun z0 z1 => J (z0, z1)) c x.1 x.2
def impl_valueOf_3_sp (n : Nat) : LSpec T := mkSpec T ⟨[], [0, 3, 4], []⟩ impl_valueOf_3_sv impl_valueOf_3_so (Int) (Int × Int) impl_valueOf_3_emb impl_valueOf_3_prj (impl_valueOf_3_b n)
noncomputable def impl_valueOf_3_c : Code := ((loopCodes impl_valueOf_code)[0]?).getD .skip
def impl_valueOf_ann : Ann := fun id => bif Nat.beq id 3000003 then some ⟨[], [3], []⟩ else none
def impl_valueOf_Ls (n : Nat) : Nat → Option (LSpec T) := fun id => bif Nat.beq id 3 then some (impl_valueOf_3_sp n) else none
theorem impl_valueOf_3_le (n : Nat) : LoopEq (T := T) (Phi n 21) (impl_valueOf_Ls n) impl_valueOf_ann n impl_valueOf_3_c (impl_valueOf_3_sp n) := ⟨mkSpec_dec (fun y => rfl), fun c x => by kernel_rfl, fun K J c x => by kernel_rfl⟩
theorem impl_valueOf_tie (n : Nat) (c0 : Int) : evF (T := T) (Phi n 21) (impl_valueOf_Ls n) impl_valueOf_ann n Try.f128 (sg 128) [vA T 5 c0] impl_valueOf_dec = impl_valueOf n c0 := by kernel_rfl
theorem impl_valueOf_lo (n : Nat) : LoopsOk (T := T) (Phi n 21) (impl_valueOf_Ls n) impl_valueOf_ann n impl_valueOf_code := loopsOk_all (cs := [impl_valueOf_3_c]) (by kernel_rfl) ⟨⟨_, by kernel_rfl, impl_valueOf_3_le n⟩, trivial⟩
theorem impl_valueOf_ok (n : Nat) : EntOk Try.prog (ents n) (impl_valueOf_ent n) := by
  intro hs ar y hg h
  replace h : impl_valueOf_D n ar = some y := h
  unfold impl_valueOf_D at h
  replace h := ocons_some h
  obtain ⟨a0, r0, rfl, h⟩ := h
  replace h := onil_some h
  obtain ⟨rfl, h⟩ := h
  obtain ⟨c0, qh0, h⟩ := obind_some h
  rw [argV_eq ok qh0]
  exact call_of (phiE_nat _ _) hs ok mixed Try.func128 (c := impl_valueOf_code) (by kernel_rfl) (impl_valueOf_lo n) (by kernel_rfl) (by kernel_rfl) (by kernel_rfl) impl_valueOf_de ((impl_valueOf_tie n c0).trans h)
noncomputable def impl_CheckDigit_code : Code := match Try.f118.body with | some c => c | none => .skip
def impl_CheckDigit_5_sv : List Sv := [.one (.str), .one (.int .i64), .one (.int .i64)]
def impl_CheckDigit_5_so : List So := []
def impl_CheckDigit_5_emb (c : ByteArray) (x : Int × Int) : EVs T impl_CheckDigit_5_sv × EOs T impl_CheckDigit_5_so := ((c, x.1, x.2, ()), ())
def impl_CheckDigit_5_prj (y : EVs T impl_CheckDigit_5_sv × EOs T impl_CheckDigit_5_so) : ByteArray × (Int × Int) := ((y.1.1), (y.1.2.1, y.1.2.2.1))
def impl_CheckDigit_5_b (n : Nat) {R : Type} (K : Ex → Sm.St T → Option R) (c : ByteArray) (x : Int × Int) (J : (Int × Int) → Option R) : Option R :=
  impl_CheckDigit_L5 n (fun (y0 : Int) => K (.exit 0) (stOf (T := T) [3] [] [.one (.int .i64)] [] (y0, ()) ())) (fun (y0 : Int) => K .ret (stOf (T := T) [2] [] [.one (.int .i64)] [] (y0, ()) ())) (fun z0 z1 => J (z0, z1)) c x.1 x.2
def impl_CheckDigit_5_sp (n : Nat) : LSpec T := mkSpec T ⟨[], [0, 3, 10], []⟩ impl_CheckDigit_5_sv impl_CheckDigit_5_so (ByteArray) (Int × Int) impl_CheckDigit_5_emb impl_CheckDigit_5_prj (impl_CheckDigit_5_b n)
noncomputable def impl_CheckDigit_5_c : Code := ((loopCodes impl_CheckDigit_code)[0]?).getD .skip
def impl_CheckDigit_ann : Ann := fun id => bif Nat.beq id 3000005 then some ⟨[], [3], []⟩ else bif Nat.beq id 2000005 then some ⟨[], [2], []⟩ else none
def impl_CheckDigit_Ls (n : Nat) : Nat → Option (LSpec T) := fun id => bif Nat.beq id 5 then some (impl_CheckDigit_5_sp n) else none
theorem impl_CheckDigit_5_le (n : Nat) : LoopEq (T := T) (Phi n 22) (impl_CheckDigit_Ls n) impl_CheckDigit_ann n impl_CheckDigit_5_c (impl_CheckDigit_5_sp n) := ⟨mkSpec_dec (fun y => rfl), fun c x => by kernel_rfl, fun K J c x => by kernel_rfl⟩
theorem impl_CheckDigit_tie (n : Nat) (name0 : ByteArray) : evF (T := T) (Phi n 22) (impl_CheckDigit_Ls n) impl_CheckDigit_ann n Try.f118 (sg 118) [vA T 9 name0] impl_CheckDigit_dec = impl_CheckDigit n name0 := by kernel_rfl
theorem impl_CheckDigit_lo (n : Nat) : LoopsOk (T := T) (Phi n 22) (impl_CheckDigit_Ls n) impl_CheckDigit_ann n impl_CheckDigit_code := loopsOk_all (cs := [impl_CheckDigit_5_c]) (by kernel_rfl) ⟨⟨_, by kernel_rfl, impl_CheckDigit_5_le n⟩, trivial⟩
theorem impl_CheckDigit_ok (n : Nat) : EntOk Try.prog (ents n) (impl_CheckDigit_ent n) := by
  intro hs ar y hg h
  replace h : impl_CheckDigit_D n ar = some y := h
  unfold impl_CheckDigit_D at h
  replace h := ocons_some h
  obtain ⟨a0, r0, rfl, h⟩ := h
  replace h := onil_some h
  obtain ⟨rfl, h⟩ := h
  obtain ⟨name0, qh0, h⟩ := obind_some h
  rw [argV_eq ok qh0]
  exact call_of (phiE_nat _ _) hs ok mixed Try.func118 (c := impl_CheckDigit_code) (by kernel_rfl) (impl_CheckDigit_lo n) (by kernel_rfl) (by kernel_rfl) (by kernel_rfl) impl_CheckDigit_de ((impl_CheckDigit_tie n name0).trans h)
noncomputable def impl_BoxName_code : Code := match Try.f100.body with | some c => c | none => .skip
def impl_BoxName_ann : Ann := fun id => none
def impl_BoxName_Ls (n : Nat) : Nat → Option (LSpec T) := fun id => none
theorem impl_BoxName_tie (n : Nat) (text0 : ByteArray) : evF (T := T) (Phi n 23) (impl_BoxName_Ls n) impl_BoxName_ann n Try.f100 (sg 100) [vA T 9 text0] impl_BoxName_dec = impl_BoxName n text0 := by kernel_rfl
theorem impl_BoxName_lo (n : Nat) : LoopsOk (T := T) (Phi n 23) (impl_BoxName_Ls n) impl_BoxName_ann n impl_BoxName_code := loopsOk_all (cs := []) (by kernel_rfl) trivial
theorem impl_BoxName_ok (n : Nat) : EntOk Try.prog (ents n) (impl_BoxName_ent n) := by
  intro hs ar y hg h
  replace h : impl_BoxName_D n ar = some y := h
  unfold impl_BoxName_D at h
  replace h := ocons_some h
  obtain ⟨a0, r0, rfl, h⟩ := h
  replace h := onil_some h
  obtain ⟨rfl, h⟩ := h
  obtain ⟨text0, qh0, h⟩ := obind_some h
  rw [argV_eq ok qh0]
  exact call_of (phiE_nat _ _) hs ok mixed Try.func100 (c := impl_BoxName_code) (by kernel_rfl) (impl_BoxName_lo n) (by kernel_rfl) (by kernel_rfl) (by kernel_rfl) impl_BoxName_de ((impl_BoxName_tie n text0).trans h)
noncomputable def impl_portOk_code : Code := match Try.f101.body with | some c => c | none => .skip
def impl_portOk_ann : Ann := fun id => none
def impl_portOk_Ls (n : Nat) : Nat → Option (LSpec T) := fun id => none
theorem impl_portOk_tie (n : Nat) (n0 : Int) : evF (T := T) (Phi n 24) (impl_portOk_Ls n) impl_portOk_ann n Try.f101 (sg 101) [vA T 3 n0] impl_portOk_dec = impl_portOk n n0 := by kernel_rfl
theorem impl_portOk_lo (n : Nat) : LoopsOk (T := T) (Phi n 24) (impl_portOk_Ls n) impl_portOk_ann n impl_portOk_code := loopsOk_all (cs := []) (by kernel_rfl) trivial
theorem impl_portOk_ok (n : Nat) : EntOk Try.prog (ents n) (impl_portOk_ent n) := by
  intro hs ar y hg h
  replace h : impl_portOk_D n ar = some y := h
  unfold impl_portOk_D at h
  replace h := ocons_some h
  obtain ⟨a0, r0, rfl, h⟩ := h
  replace h := onil_some h
  obtain ⟨rfl, h⟩ := h
  obtain ⟨n0, qh0, h⟩ := obind_some h
  rw [argV_eq ok qh0]
  exact call_of (phiE_nat _ _) hs ok mixed Try.func101 (c := impl_portOk_code) (by kernel_rfl) (impl_portOk_lo n) (by kernel_rfl) (by kernel_rfl) (by kernel_rfl) impl_portOk_de ((impl_portOk_tie n n0).trans h)
noncomputable def impl_BoxOk_code : Code := match Try.f50.body with | some c => c | none => .skip
def impl_BoxOk_ann : Ann := fun id => none
def impl_BoxOk_Ls (n : Nat) : Nat → Option (LSpec T) := fun id => none
theorem impl_BoxOk_tie (n : Nat) (b0 : SBox) : evF (T := T) (Phi n 25) (impl_BoxOk_Ls n) impl_BoxOk_ann n Try.f50 (sg 50) [vA T 63 b0] impl_BoxOk_dec = impl_BoxOk n b0 := by kernel_rfl
theorem impl_BoxOk_lo (n : Nat) : LoopsOk (T := T) (Phi n 25) (impl_BoxOk_Ls n) impl_BoxOk_ann n impl_BoxOk_code := loopsOk_all (cs := []) (by kernel_rfl) trivial
theorem impl_BoxOk_ok (n : Nat) : EntOk Try.prog (ents n) (impl_BoxOk_ent n) := by
  intro hs ar y hg h
  replace h : impl_BoxOk_D n ar = some y := h
  unfold impl_BoxOk_D at h
  replace h := ocons_some h
  obtain ⟨a0, r0, rfl, h⟩ := h
  replace h := onil_some h
  obtain ⟨rfl, h⟩ := h
  obtain ⟨b0, qh0, h⟩ := obind_some h
  rw [argV_eq ok qh0]
  exact call_of (phiE_nat _ _) hs ok mixed Try.func50 (c := impl_BoxOk_code) (by kernel_rfl) (impl_BoxOk_lo n) (by kernel_rfl) (by kernel_rfl) (by kernel_rfl) impl_BoxOk_de ((impl_BoxOk_tie n b0).trans h)
noncomputable def impl_Fewest_1_code : Code := match Try.f52.body with | some c => c | none => .skip
def impl_Fewest_1_ann : Ann := fun id => none
def impl_Fewest_1_Ls (n : Nat) : Nat → Option (LSpec T) := fun id => none
theorem impl_Fewest_1_tie (n : Nat) (x0 : SBox) (a1 : SBox) : evF (T := T) (Phi n 26) (impl_Fewest_1_Ls n) impl_Fewest_1_ann n Try.f52 (sg 52) [vA T 63 x0, .ptr 63 a1] impl_Fewest_1_dec = impl_Fewest_1 n x0 a1 := by kernel_rfl
theorem impl_Fewest_1_lo (n : Nat) : LoopsOk (T := T) (Phi n 26) (impl_Fewest_1_Ls n) impl_Fewest_1_ann n impl_Fewest_1_code := loopsOk_all (cs := []) (by kernel_rfl) trivial
theorem impl_Fewest_1_ok (n : Nat) : EntOk Try.prog (ents n) (impl_Fewest_1_ent n) := by
  intro hs ar y hg h
  replace h : impl_Fewest_1_D n ar = some y := h
  unfold impl_Fewest_1_D at h
  replace h := ocons_some h
  obtain ⟨a0, r0, rfl, h⟩ := h
  replace h := ocons_some h
  obtain ⟨a1, r1, rfl, h⟩ := h
  replace h := onil_some h
  obtain ⟨rfl, h⟩ := h
  obtain ⟨x0, qh0, h⟩ := obind_some h
  obtain ⟨a1, qh1, h⟩ := obind_some h
  rw [argV_eq ok qh0, argP_eq qh1]
  exact call_of (phiE_nat _ _) hs ok mixed Try.func52 (c := impl_Fewest_1_code) (by kernel_rfl) (impl_Fewest_1_lo n) (by kernel_rfl) (by kernel_rfl) (by kernel_rfl) impl_Fewest_1_de ((impl_Fewest_1_tie n x0 a1).trans h)
noncomputable def sIndex_Fewest_1_code : Code := match Try.f102.body with | some c => c | none => .skip
def sIndex_Fewest_1_2_sv : List Sv := [.one (.arr 63), .one (.fnr 52 [63]), .one (.int .i64), .one (.int .i64)]
def sIndex_Fewest_1_2_so : List So := []
def sIndex_Fewest_1_2_emb (c : List SBox × SBox × Int) (x : Int) : EVs T sIndex_Fewest_1_2_sv × EOs T sIndex_Fewest_1_2_so := ((c.1, (c.2.1, ()), c.2.2, x, ()), ())
def sIndex_Fewest_1_2_prj (y : EVs T sIndex_Fewest_1_2_sv × EOs T sIndex_Fewest_1_2_so) : (List SBox × SBox × Int) × Int := ((y.1.1, y.1.2.1.1, y.1.2.2.1), (y.1.2.2.2.1))
def sIndex_Fewest_1_2_b (n : Nat) {R : Type} (K : Ex → Sm.St T → Option R) (c : List SBox × SBox × Int) (x : Int) (J : Int → Option R) : Option R :=
  sIndex_Fewest_1_L2 n (K (.exit 0) (stOf (T := T) [] [] [] [] () ())) (fun (y0 : Int) => K .ret (stOf (T := T) [4] [] [.one (.int .i64)] [] (y0, ()) ())) J c.1 c.2.1 c.2.2 x
def sIndex_Fewest_1_2_sp (n : Nat) : LSpec T := mkSpec T ⟨[], [0, 1, 7, 8], []⟩ sIndex_Fewest_1_2_sv sIndex_Fewest_1_2_so (List SBox × SBox × Int) (Int) sIndex_Fewest_1_2_emb sIndex_Fewest_1_2_prj (sIndex_Fewest_1_2_b n)
noncomputable def sIndex_Fewest_1_2_c : Code := ((loopCodes sIndex_Fewest_1_code)[0]?).getD .skip
def sIndex_Fewest_1_ann : Ann := fun id => bif Nat.beq id 3000002 then some ⟨[], [], []⟩ else bif Nat.beq id 2000002 then some ⟨[], [4], []⟩ else none
def sIndex_Fewest_1_Ls (n : Nat) : Nat → Option (LSpec T) := fun id => bif Nat.beq id 2 then some (sIndex_Fewest_1_2_sp n) else none
theorem sIndex_Fewest_1_2_le (n : Nat) : LoopEq (T := T) (Phi n 27) (sIndex_Fewest_1_Ls n) sIndex_Fewest_1_ann n sIndex_Fewest_1_2_c (sIndex_Fewest_1_2_sp n) := ⟨mkSpec_dec (fun y => rfl), fun c x => by kernel_rfl, fun K J c x => by kernel_rfl⟩
theorem sIndex_Fewest_1_tie (n : Nat) (s0 : List SBox) (f1c0 : SBox) : evF (T := T) (Phi n 27) (sIndex_Fewest_1_Ls n) sIndex_Fewest_1_ann n Try.f102 (sg 102) [vA T 49 s0, .fn 52 [.ptr 63 f1c0]] sIndex_Fewest_1_dec = sIndex_Fewest_1 n s0 f1c0 := by kernel_rfl
theorem sIndex_Fewest_1_lo (n : Nat) : LoopsOk (T := T) (Phi n 27) (sIndex_Fewest_1_Ls n) sIndex_Fewest_1_ann n sIndex_Fewest_1_code := loopsOk_all (cs := [sIndex_Fewest_1_2_c]) (by kernel_rfl) ⟨⟨_, by kernel_rfl, sIndex_Fewest_1_2_le n⟩, trivial⟩
theorem sIndex_Fewest_1_ok (n : Nat) : EntOk Try.prog (ents n) (sIndex_Fewest_1_ent n) := by
  intro hs ar y hg h
  replace h : sIndex_Fewest_1_D n ar = some y := h
  unfold sIndex_Fewest_1_D at h
  split at h
  · obtain ⟨s0, qh0, h⟩ := obind_some h
    obtain ⟨f1c0, qh1, h⟩ := obind_some h
    rw [argV_eq ok qh0, argP_eq qh1] at hg ⊢
    cases (show [_] = [52] from natsEq_eq hg)
    exact call_of (phiE_nat _ _) hs ok mixed Try.func102 (c := sIndex_Fewest_1_code) (by kernel_rfl) (sIndex_Fewest_1_lo n) (by kernel_rfl) (by kernel_rfl) (by kernel_rfl) sIndex_Fewest_1_de ((sIndex_Fewest_1_tie n s0 f1c0).trans h)
  · cases h
noncomputable def sContains_Fewest_1_code : Code := match Try.f51.body with | some c => c | none => .skip
def sContains_Fewest_1_ann : Ann := fun id => none
def sContains_Fewest_1_Ls (n : Nat) : Nat → Option (LSpec T) := fun id => none
theorem sContains_Fewest_1_tie (n : Nat) (s0 : List SBox) (f1c0 : SBox) : evF (T := T) (Phi n 28) (sContains_Fewest_1_Ls n) sContains_Fewest_1_ann n Try.f51 (sg 51) [vA T 49 s0, .fn 52 [.ptr 63 f1c0]] sContains_Fewest_1_dec = sContains_Fewest_1 n s0 f1c0 := by kernel_rfl
theorem sContains_Fewest_1_lo (n : Nat) : LoopsOk (T := T) (Phi n 28) (sContains_Fewest_1_Ls n) sContains_Fewest_1_ann n sContains_Fewest_1_code := loopsOk_all (cs := []) (by kernel_rfl) trivial
theorem sContains_Fewest_1_ok (n : Nat) : EntOk Try.prog (ents n) (sContains_Fewest_1_ent n) := by
  intro hs ar y hg h
  replace h : sContains_Fewest_1_D n ar = some y := h
  unfold sContains_Fewest_1_D at h
  split at h
  · obtain ⟨s0, qh0, h⟩ := obind_some h
    obtain ⟨f1c0, qh1, h⟩ := obind_some h
    rw [argV_eq ok qh0, argP_eq qh1] at hg ⊢
    cases (show [_] = [52] from natsEq_eq hg)
    exact call_of (phiE_nat _ _) hs ok mixed Try.func51 (c := sContains_Fewest_1_code) (by kernel_rfl) (sContains_Fewest_1_lo n) (by kernel_rfl) (by kernel_rfl) (by kernel_rfl) sContains_Fewest_1_de ((sContains_Fewest_1_tie n s0 f1c0).trans h)
  · cases h
noncomputable def impl_StowCode_1_code : Code := match Try.f65.body with | some c => c | none => .skip
def impl_StowCode_1_ann : Ann := fun id => none
def impl_StowCode_1_Ls (n : Nat) : Nat → Option (LSpec T) := fun id => none
theorem impl_StowCode_1_tie (n : Nat) (_0 : Int) (s1 : SStow) : evF (T := T) (Phi n 29) (impl_StowCode_1_Ls n) impl_StowCode_1_ann n Try.f65 (sg 65) [vA T 3 _0, vA T 67 s1] impl_StowCode_1_dec = impl_StowCode_1 n _0 s1 := by kernel_rfl
theorem impl_StowCode_1_lo (n : Nat) : LoopsOk (T := T) (Phi n 29) (impl_StowCode_1_Ls n) impl_StowCode_1_ann n impl_StowCode_1_code := loopsOk_all (cs := []) (by kernel_rfl) trivial
theorem impl_StowCode_1_ok (n : Nat) : EntOk Try.prog (ents n) (impl_StowCode_1_ent n) := by
  intro hs ar y hg h
  replace h : impl_StowCode_1_D n ar = some y := h
  unfold impl_StowCode_1_D at h
  replace h := ocons_some h
  obtain ⟨a0, r0, rfl, h⟩ := h
  replace h := ocons_some h
  obtain ⟨a1, r1, rfl, h⟩ := h
  replace h := onil_some h
  obtain ⟨rfl, h⟩ := h
  obtain ⟨_0, qh0, h⟩ := obind_some h
  obtain ⟨s1, qh1, h⟩ := obind_some h
  rw [argV_eq ok qh0, argV_eq ok qh1]
  exact call_of (phiE_nat _ _) hs ok mixed Try.func65 (c := impl_StowCode_1_code) (by kernel_rfl) (impl_StowCode_1_lo n) (by kernel_rfl) (by kernel_rfl) (by kernel_rfl) impl_StowCode_1_de ((impl_StowCode_1_tie n _0 s1).trans h)
noncomputable def impl_StowCode_2_1_code : Code := match Try.f67.body with | some c => c | none => .skip
def impl_StowCode_2_1_ann : Ann := fun id => none
def impl_StowCode_2_1_Ls (n : Nat) : Nat → Option (LSpec T) := fun id => none
theorem impl_StowCode_2_1_tie (n : Nat) (x0 : SStow) (a1 : SStow) : evF (T := T) (Phi n 30) (impl_StowCode_2_1_Ls n) impl_StowCode_2_1_ann n Try.f67 (sg 67) [vA T 67 x0, .ptr 67 a1] impl_StowCode_2_1_dec = impl_StowCode_2_1 n x0 a1 := by kernel_rfl
theorem impl_StowCode_2_1_lo (n : Nat) : LoopsOk (T := T) (Phi n 30) (impl_StowCode_2_1_Ls n) impl_StowCode_2_1_ann n impl_StowCode_2_1_code := loopsOk_all (cs := []) (by kernel_rfl) trivial
theorem impl_StowCode_2_1_ok (n : Nat) : EntOk Try.prog (ents n) (impl_StowCode_2_1_ent n) := by
  intro hs ar y hg h
  replace h : impl_StowCode_2_1_D n ar = some y := h
  unfold impl_StowCode_2_1_D at h
  replace h := ocons_some h
  obtain ⟨a0, r0, rfl, h⟩ := h
  replace h := ocons_some h
  obtain ⟨a1, r1, rfl, h⟩ := h
  replace h := onil_some h
  obtain ⟨rfl, h⟩ := h
  obtain ⟨x0, qh0, h⟩ := obind_some h
  obtain ⟨a1, qh1, h⟩ := obind_some h
  rw [argV_eq ok qh0, argP_eq qh1]
  exact call_of (phiE_nat _ _) hs ok mixed Try.func67 (c := impl_StowCode_2_1_code) (by kernel_rfl) (impl_StowCode_2_1_lo n) (by kernel_rfl) (by kernel_rfl) (by kernel_rfl) impl_StowCode_2_1_de ((impl_StowCode_2_1_tie n x0 a1).trans h)
noncomputable def sIndex_StowCode_2_1_code : Code := match Try.f104.body with | some c => c | none => .skip
def sIndex_StowCode_2_1_2_sv : List Sv := [.one (.arr 67), .one (.fnr 67 [67]), .one (.int .i64), .one (.int .i64)]
def sIndex_StowCode_2_1_2_so : List So := []
def sIndex_StowCode_2_1_2_emb (c : List SStow × SStow × Int) (x : Int) : EVs T sIndex_StowCode_2_1_2_sv × EOs T sIndex_StowCode_2_1_2_so := ((c.1, (c.2.1, ()), c.2.2, x, ()), ())
def sIndex_StowCode_2_1_2_prj (y : EVs T sIndex_StowCode_2_1_2_sv × EOs T sIndex_StowCode_2_1_2_so) : (List SStow × SStow × Int) × Int := ((y.1.1, y.1.2.1.1, y.1.2.2.1), (y.1.2.2.2.1))
def sIndex_StowCode_2_1_2_b (n : Nat) {R : Type} (K : Ex → Sm.St T → Option R) (c : List SStow × SStow × Int) (x : Int) (J : Int → Option R) : Option R :=
  sIndex_StowCode_2_1_L2 n (K (.exit 0) (stOf (T := T) [] [] [] [] () ())) (fun (y0 : Int) => K .ret (stOf (T := T) [4] [] [.one (.int .i64)] [] (y0, ()) ())) J c.1 c.2.1 c.2.2 x
def sIndex_StowCode_2_1_2_sp (n : Nat) : LSpec T := mkSpec T ⟨[], [0, 1, 7, 8], []⟩ sIndex_StowCode_2_1_2_sv sIndex_StowCode_2_1_2_so (List SStow × SStow × Int) (Int) sIndex_StowCode_2_1_2_emb sIndex_StowCode_2_1_2_prj (sIndex_StowCode_2_1_2_b n)
noncomputable def sIndex_StowCode_2_1_2_c : Code := ((loopCodes sIndex_StowCode_2_1_code)[0]?).getD .skip
def sIndex_StowCode_2_1_ann : Ann := fun id => bif Nat.beq id 3000002 then some ⟨[], [], []⟩ else bif Nat.beq id 2000002 then some ⟨[], [4], []⟩ else none
def sIndex_StowCode_2_1_Ls (n : Nat) : Nat → Option (LSpec T) := fun id => bif Nat.beq id 2 then some (sIndex_StowCode_2_1_2_sp n) else none
theorem sIndex_StowCode_2_1_2_le (n : Nat) : LoopEq (T := T) (Phi n 31) (sIndex_StowCode_2_1_Ls n) sIndex_StowCode_2_1_ann n sIndex_StowCode_2_1_2_c (sIndex_StowCode_2_1_2_sp n) := ⟨mkSpec_dec (fun y => rfl), fun c x => by kernel_rfl, fun K J c x => by kernel_rfl⟩
theorem sIndex_StowCode_2_1_tie (n : Nat) (s0 : List SStow) (f1c0 : SStow) : evF (T := T) (Phi n 31) (sIndex_StowCode_2_1_Ls n) sIndex_StowCode_2_1_ann n Try.f104 (sg 104) [vA T 44 s0, .fn 67 [.ptr 67 f1c0]] sIndex_StowCode_2_1_dec = sIndex_StowCode_2_1 n s0 f1c0 := by kernel_rfl
theorem sIndex_StowCode_2_1_lo (n : Nat) : LoopsOk (T := T) (Phi n 31) (sIndex_StowCode_2_1_Ls n) sIndex_StowCode_2_1_ann n sIndex_StowCode_2_1_code := loopsOk_all (cs := [sIndex_StowCode_2_1_2_c]) (by kernel_rfl) ⟨⟨_, by kernel_rfl, sIndex_StowCode_2_1_2_le n⟩, trivial⟩
theorem sIndex_StowCode_2_1_ok (n : Nat) : EntOk Try.prog (ents n) (sIndex_StowCode_2_1_ent n) := by
  intro hs ar y hg h
  replace h : sIndex_StowCode_2_1_D n ar = some y := h
  unfold sIndex_StowCode_2_1_D at h
  split at h
  · obtain ⟨s0, qh0, h⟩ := obind_some h
    obtain ⟨f1c0, qh1, h⟩ := obind_some h
    rw [argV_eq ok qh0, argP_eq qh1] at hg ⊢
    cases (show [_] = [67] from natsEq_eq hg)
    exact call_of (phiE_nat _ _) hs ok mixed Try.func104 (c := sIndex_StowCode_2_1_code) (by kernel_rfl) (sIndex_StowCode_2_1_lo n) (by kernel_rfl) (by kernel_rfl) (by kernel_rfl) sIndex_StowCode_2_1_de ((sIndex_StowCode_2_1_tie n s0 f1c0).trans h)
  · cases h
noncomputable def sContains_StowCode_2_1_code : Code := match Try.f56.body with | some c => c | none => .skip
def sContains_StowCode_2_1_ann : Ann := fun id => none
def sContains_StowCode_2_1_Ls (n : Nat) : Nat → Option (LSpec T) := fun id => none
theorem sContains_StowCode_2_1_tie (n : Nat) (s0 : List SStow) (f1c0 : SStow) : evF (T := T) (Phi n 32) (sContains_StowCode_2_1_Ls n) sContains_StowCode_2_1_ann n Try.f56 (sg 56) [vA T 44 s0, .fn 67 [.ptr 67 f1c0]] sContains_StowCode_2_1_dec = sContains_StowCode_2_1 n s0 f1c0 := by kernel_rfl
theorem sContains_StowCode_2_1_lo (n : Nat) : LoopsOk (T := T) (Phi n 32) (sContains_StowCode_2_1_Ls n) sContains_StowCode_2_1_ann n sContains_StowCode_2_1_code := loopsOk_all (cs := []) (by kernel_rfl) trivial
end Go.Sm.F5
