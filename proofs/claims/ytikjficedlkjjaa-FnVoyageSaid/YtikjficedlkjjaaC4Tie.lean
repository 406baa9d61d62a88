import Derived.Test.YtikjficedlkjjaaC4Tb
import Derived.Test.YtikjficedlkjjaaEngE
import Derived.Test.YtikjficedlkjjaaLay
import Derived.KernelRfl
/- Each function's code computes what the plain function computes. -/
set_option linter.unusedSimpArgs false
set_option linter.deprecated false
set_option linter.unusedSectionVars false
set_option linter.unusedVariables false
set_option maxRecDepth 100000
open Go Go.Proofs
noncomputable section
namespace Go.Sm.C4
/-- By recursors, and of a greater height than all of the functions: the kernel takes these apart first. -/
def obind {α β : Type} (o : Option α) (f : α → Option β) : Option β := let _ := @laws_FnVoyage; Option.rec (motive := fun _ => Option β) none (fun a => f a) o
theorem obind_some {α β : Type} {o : Option α} {f : α → Option β} {y : β} (h : obind o f = some y) : ∃ a, o = some a ∧ f a = some y := by
  cases o with
  | none => cases h
  | some a => exact ⟨a, rfl, h⟩
def ocons {β : Type} (l : List (A T)) (f : A T → List (A T) → Option β) : Option β := let _ := @laws_FnVoyage; List.rec (motive := fun _ => Option β) none (fun a r _ => f a r) l
theorem ocons_some {β : Type} {l : List (A T)} {f : A T → List (A T) → Option β} {y : β} (h : ocons l f = some y) : ∃ a r, l = a :: r ∧ f a r = some y := by
  cases l with
  | nil => cases h
  | cons a r => exact ⟨a, r, rfl, h⟩
def onil {β : Type} (l : List (A T)) (x : Option β) : Option β := let _ := @laws_FnVoyage; List.rec (motive := fun _ => Option β) x (fun _ _ _ => none) l
theorem onil_some {β : Type} {l : List (A T)} {x : Option β} {y : β} (h : onil l x = some y) : l = [] ∧ x = some y := by
  cases l with
  | nil => exact ⟨rfl, h⟩
  | cons a r => cases h
def laws_big_dec (res : Res T) : Option Bool := match res.rets, res.outs with
  | [a0], [] => (retV (T := T) 4 a0).bind fun r0 => some (r0)
  | _, _ => none
def laws_big_enc (y : Bool) : Res T := ⟨[vR T 4 y], []⟩
theorem laws_big_de (res : Res T) (y : Bool) (h : laws_big_dec res = some y) : res = laws_big_enc y := by
  obtain ⟨rets, outs⟩ := res
  unfold laws_big_dec at h
  dsimp only at h
  split at h
  · obtain ⟨r0, h0, h⟩ := Option.bind_eq_some_iff.1 h
    cases h
    rw [retV_eq ok h0]
    rfl
  · cases h
def spec_l1New_dec (res : Res T) : Option Sl1Cur := match res.rets, res.outs with
  | [a0], [] => (retP (T := T) 160 a0).bind fun r0 => some (r0)
  | _, _ => none
def spec_l1New_enc (y : Sl1Cur) : Res T := ⟨[.ptr 160 y], []⟩
theorem spec_l1New_de (res : Res T) (y : Sl1Cur) (h : spec_l1New_dec res = some y) : res = spec_l1New_enc y := by
  obtain ⟨rets, outs⟩ := res
  unfold spec_l1New_dec at h
  dsimp only at h
  split at h
  · obtain ⟨r0, h0, h⟩ := Option.bind_eq_some_iff.1 h
    cases h
    rw [retP_eq h0]
    rfl
  · cases h
def spec_l1Byte_dec (res : Res T) : Option (Int × Sl1Cur) := match res.rets, res.outs with
  | [a0], [b0] => (retV (T := T) 3 a0).bind fun r0 => (outV (T := T) 160 b0).bind fun r1 => some (r0, r1)
  | _, _ => none
def spec_l1Byte_enc (y : Int × Sl1Cur) : Res T := ⟨[vR T 3 y.1], [.var 160 y.2]⟩
theorem spec_l1Byte_de (res : Res T) (y : Int × Sl1Cur) (h : spec_l1Byte_dec res = some y) : res = spec_l1Byte_enc y := by
  obtain ⟨rets, outs⟩ := res
  unfold spec_l1Byte_dec at h
  dsimp only at h
  split at h
  · obtain ⟨r0, h0, h⟩ := Option.bind_eq_some_iff.1 h
    obtain ⟨r1, h1, h⟩ := Option.bind_eq_some_iff.1 h
    cases h
    rw [retV_eq ok h0, outV_eq h1]
    rfl
  · cases h
def spec_l1Below_dec (res : Res T) : Option (Int × Sl1Cur) := match res.rets, res.outs with
  | [a0], [b0] => (retV (T := T) 3 a0).bind fun r0 => (outV (T := T) 160 b0).bind fun r1 => some (r0, r1)
  | _, _ => none
def spec_l1Below_enc (y : Int × Sl1Cur) : Res T := ⟨[vR T 3 y.1], [.var 160 y.2]⟩
theorem spec_l1Below_de (res : Res T) (y : Int × Sl1Cur) (h : spec_l1Below_dec res = some y) : res = spec_l1Below_enc y := by
  obtain ⟨rets, outs⟩ := res
  unfold spec_l1Below_dec at h
  dsimp only at h
  split at h
  · obtain ⟨r0, h0, h⟩ := Option.bind_eq_some_iff.1 h
    obtain ⟨r1, h1, h⟩ := Option.bind_eq_some_iff.1 h
    cases h
    rw [retV_eq ok h0, outV_eq h1]
    rfl
  · cases h
def spec_l1PickInt_dec (res : Res T) : Option (Int × Sl1Cur) := match res.rets, res.outs with
  | [a0], [b0] => (retV (T := T) 3 a0).bind fun r0 => (outV (T := T) 160 b0).bind fun r1 => some (r0, r1)
  | _, _ => none
def spec_l1PickInt_enc (y : Int × Sl1Cur) : Res T := ⟨[vR T 3 y.1], [.var 160 y.2]⟩
theorem spec_l1PickInt_de (res : Res T) (y : Int × Sl1Cur) (h : spec_l1PickInt_dec res = some y) : res = spec_l1PickInt_enc y := by
  obtain ⟨rets, outs⟩ := res
  unfold spec_l1PickInt_dec at h
  dsimp only at h
  split at h
  · obtain ⟨r0, h0, h⟩ := Option.bind_eq_some_iff.1 h
    obtain ⟨r1, h1, h⟩ := Option.bind_eq_some_iff.1 h
    cases h
    rw [retV_eq ok h0, outV_eq h1]
    rfl
  · cases h
def spec_l12DrawBays_dec (res : Res T) : Option (List SHatch × Sl1Cur) := match res.rets, res.outs with
  | [a0], [b0] => (retV (T := T) 33 a0).bind fun r0 => (outV (T := T) 160 b0).bind fun r1 => some (r0, r1)
  | _, _ => none
def spec_l12DrawBays_enc (y : List SHatch × Sl1Cur) : Res T := ⟨[vR T 33 y.1], [.var 160 y.2]⟩
theorem spec_l12DrawBays_de (res : Res T) (y : List SHatch × Sl1Cur) (h : spec_l12DrawBays_dec res = some y) : res = spec_l12DrawBays_enc y := by
  obtain ⟨rets, outs⟩ := res
  unfold spec_l12DrawBays_dec at h
  dsimp only at h
  split at h
  · obtain ⟨r0, h0, h⟩ := Option.bind_eq_some_iff.1 h
    obtain ⟨r1, h1, h⟩ := Option.bind_eq_some_iff.1 h
    cases h
    rw [retV_eq ok h0, outV_eq h1]
    rfl
  · cases h
def spec_l12At_dec (res : Res T) : Option Int := match res.rets, res.outs with
  | [a0], [] => (retV (T := T) 3 a0).bind fun r0 => some (r0)
  | _, _ => none
def spec_l12At_enc (y : Int) : Res T := ⟨[vR T 3 y], []⟩
theorem spec_l12At_de (res : Res T) (y : Int) (h : spec_l12At_dec res = some y) : res = spec_l12At_enc y := by
  obtain ⟨rets, outs⟩ := res
  unfold spec_l12At_dec at h
  dsimp only at h
  split at h
  · obtain ⟨r0, h0, h⟩ := Option.bind_eq_some_iff.1 h
    cases h
    rw [retV_eq ok h0]
    rfl
  · cases h
def spec_l12Stack_dec (res : Res T) : Option (List SBox) := match res.rets, res.outs with
  | [a0], [] => (retV (T := T) 24 a0).bind fun r0 => some (r0)
  | _, _ => none
def spec_l12Stack_enc (y : List SBox) : Res T := ⟨[vR T 24 y], []⟩
theorem spec_l12Stack_de (res : Res T) (y : List SBox) (h : spec_l12Stack_dec res = some y) : res = spec_l12Stack_enc y := by
  obtain ⟨rets, outs⟩ := res
  unfold spec_l12Stack_dec at h
  dsimp only at h
  split at h
  · obtain ⟨r0, h0, h⟩ := Option.bind_eq_some_iff.1 h
    cases h
    rw [retV_eq ok h0]
    rfl
  · cases h
def spec_l1In_dec (res : Res T) : Option Bool := match res.rets, res.outs with
  | [a0], [] => (retV (T := T) 4 a0).bind fun r0 => some (r0)
  | _, _ => none
def spec_l1In_enc (y : Bool) : Res T := ⟨[vR T 4 y], []⟩
theorem spec_l1In_de (res : Res T) (y : Bool) (h : spec_l1In_dec res = some y) : res = spec_l1In_enc y := by
  obtain ⟨rets, outs⟩ := res
  unfold spec_l1In_dec at h
  dsimp only at h
  split at h
  · obtain ⟨r0, h0, h⟩ := Option.bind_eq_some_iff.1 h
    cases h
    rw [retV_eq ok h0]
    rfl
  · cases h
def spec_l11Letter_dec (res : Res T) : Option Int := match res.rets, res.outs with
  | [a0], [] => (retV (T := T) 3 a0).bind fun r0 => some (r0)
  | _, _ => none
def spec_l11Letter_enc (y : Int) : Res T := ⟨[vR T 3 y], []⟩
theorem spec_l11Letter_de (res : Res T) (y : Int) (h : spec_l11Letter_dec res = some y) : res = spec_l11Letter_enc y := by
  obtain ⟨rets, outs⟩ := res
  unfold spec_l11Letter_dec at h
  dsimp only at h
  split at h
  · obtain ⟨r0, h0, h⟩ := Option.bind_eq_some_iff.1 h
    cases h
    rw [retV_eq ok h0]
    rfl
  · cases h
def spec_CheckDigit_dec (res : Res T) : Option Int := match res.rets, res.outs with
  | [a0], [] => (retV (T := T) 3 a0).bind fun r0 => some (r0)
  | _, _ => none
def spec_CheckDigit_enc (y : Int) : Res T := ⟨[vR T 3 y], []⟩
theorem spec_CheckDigit_de (res : Res T) (y : Int) (h : spec_CheckDigit_dec res = some y) : res = spec_CheckDigit_enc y := by
  obtain ⟨rets, outs⟩ := res
  unfold spec_CheckDigit_dec at h
  dsimp only at h
  split at h
  · obtain ⟨r0, h0, h⟩ := Option.bind_eq_some_iff.1 h
    cases h
    rw [retV_eq ok h0]
    rfl
  · cases h
def spec_l11DrawName_dec (res : Res T) : Option (ByteArray × Sl1Cur) := match res.rets, res.outs with
  | [a0], [b0] => (retV (T := T) 9 a0).bind fun r0 => (outV (T := T) 160 b0).bind fun r1 => some (r0, r1)
  | _, _ => none
def spec_l11DrawName_enc (y : ByteArray × Sl1Cur) : Res T := ⟨[vR T 9 y.1], [.var 160 y.2]⟩
theorem spec_l11DrawName_de (res : Res T) (y : ByteArray × Sl1Cur) (h : spec_l11DrawName_dec res = some y) : res = spec_l11DrawName_enc y := by
  obtain ⟨rets, outs⟩ := res
  unfold spec_l11DrawName_dec at h
  dsimp only at h
  split at h
  · obtain ⟨r0, h0, h⟩ := Option.bind_eq_some_iff.1 h
    obtain ⟨r1, h1, h⟩ := Option.bind_eq_some_iff.1 h
    cases h
    rw [retV_eq ok h0, outV_eq h1]
    rfl
  · cases h
def spec_l1Once_dec (res : Res T) : Option (Bool × Sl1Cur) := match res.rets, res.outs with
  | [a0], [b0] => (retV (T := T) 4 a0).bind fun r0 => (outV (T := T) 160 b0).bind fun r1 => some (r0, r1)
  | _, _ => none
def spec_l1Once_enc (y : Bool × Sl1Cur) : Res T := ⟨[vR T 4 y.1], [.var 160 y.2]⟩
theorem spec_l1Once_de (res : Res T) (y : Bool × Sl1Cur) (h : spec_l1Once_dec res = some y) : res = spec_l1Once_enc y := by
  obtain ⟨rets, outs⟩ := res
  unfold spec_l1Once_dec at h
  dsimp only at h
  split at h
  · obtain ⟨r0, h0, h⟩ := Option.bind_eq_some_iff.1 h
    obtain ⟨r1, h1, h⟩ := Option.bind_eq_some_iff.1 h
    cases h
    rw [retV_eq ok h0, outV_eq h1]
    rfl
  · cases h
def spec_l11Draw_dec (res : Res T) : Option (SBox × Sl1Cur) := match res.rets, res.outs with
  | [a0], [b0] => (retV (T := T) 32 a0).bind fun r0 => (outV (T := T) 160 b0).bind fun r1 => some (r0, r1)
  | _, _ => none
def spec_l11Draw_enc (y : SBox × Sl1Cur) : Res T := ⟨[vR T 32 y.1], [.var 160 y.2]⟩
theorem spec_l11Draw_de (res : Res T) (y : SBox × Sl1Cur) (h : spec_l11Draw_dec res = some y) : res = spec_l11Draw_enc y := by
  obtain ⟨rets, outs⟩ := res
  unfold spec_l11Draw_dec at h
  dsimp only at h
  split at h
  · obtain ⟨r0, h0, h⟩ := Option.bind_eq_some_iff.1 h
    obtain ⟨r1, h1, h⟩ := Option.bind_eq_some_iff.1 h
    cases h
    rw [retV_eq ok h0, outV_eq h1]
    rfl
  · cases h
def spec_HatchesOk_dec (res : Res T) : Option Bool := match res.rets, res.outs with
  | [a0], [] => (retV (T := T) 4 a0).bind fun r0 => some (r0)
  | _, _ => none
def spec_HatchesOk_enc (y : Bool) : Res T := ⟨[vR T 4 y], []⟩
theorem spec_HatchesOk_de (res : Res T) (y : Bool) (h : spec_HatchesOk_dec res = some y) : res = spec_HatchesOk_enc y := by
  obtain ⟨rets, outs⟩ := res
  unfold spec_HatchesOk_dec at h
  dsimp only at h
  split at h
  · obtain ⟨r0, h0, h⟩ := Option.bind_eq_some_iff.1 h
    cases h
    rw [retV_eq ok h0]
    rfl
  · cases h
def spec_BoxName_dec (res : Res T) : Option Bool := match res.rets, res.outs with
  | [a0], [] => (retV (T := T) 4 a0).bind fun r0 => some (r0)
  | _, _ => none
def spec_BoxName_enc (y : Bool) : Res T := ⟨[vR T 4 y], []⟩
theorem spec_BoxName_de (res : Res T) (y : Bool) (h : spec_BoxName_dec res = some y) : res = spec_BoxName_enc y := by
  obtain ⟨rets, outs⟩ := res
  unfold spec_BoxName_dec at h
  dsimp only at h
  split at h
  · obtain ⟨r0, h0, h⟩ := Option.bind_eq_some_iff.1 h
    cases h
    rw [retV_eq ok h0]
    rfl
  · cases h
def spec_BoxOk_dec (res : Res T) : Option Bool := match res.rets, res.outs with
  | [a0], [] => (retV (T := T) 4 a0).bind fun r0 => some (r0)
  | _, _ => none
def spec_BoxOk_enc (y : Bool) : Res T := ⟨[vR T 4 y], []⟩
theorem spec_BoxOk_de (res : Res T) (y : Bool) (h : spec_BoxOk_dec res = some y) : res = spec_BoxOk_enc y := by
  obtain ⟨rets, outs⟩ := res
  unfold spec_BoxOk_dec at h
  dsimp only at h
  split at h
  · obtain ⟨r0, h0, h⟩ := Option.bind_eq_some_iff.1 h
    cases h
    rw [retV_eq ok h0]
    rfl
  · cases h
def spec_StackOk_dec (res : Res T) : Option Bool := match res.rets, res.outs with
  | [a0], [] => (retV (T := T) 4 a0).bind fun r0 => some (r0)
  | _, _ => none
def spec_StackOk_enc (y : Bool) : Res T := ⟨[vR T 4 y], []⟩
theorem spec_StackOk_de (res : Res T) (y : Bool) (h : spec_StackOk_dec res = some y) : res = spec_StackOk_enc y := by
  obtain ⟨rets, outs⟩ := res
  unfold spec_StackOk_dec at h
  dsimp only at h
  split at h
  · obtain ⟨r0, h0, h⟩ := Option.bind_eq_some_iff.1 h
    cases h
    rw [retV_eq ok h0]
    rfl
  · cases h
def spec_l12Cold_dec (res : Res T) : Option Int := match res.rets, res.outs with
  | [a0], [] => (retV (T := T) 3 a0).bind fun r0 => some (r0)
  | _, _ => none
def spec_l12Cold_enc (y : Int) : Res T := ⟨[vR T 3 y], []⟩
theorem spec_l12Cold_de (res : Res T) (y : Int) (h : spec_l12Cold_dec res = some y) : res = spec_l12Cold_enc y := by
  obtain ⟨rets, outs⟩ := res
  unfold spec_l12Cold_dec at h
  dsimp only at h
  split at h
  · obtain ⟨r0, h0, h⟩ := Option.bind_eq_some_iff.1 h
    cases h
    rw [retV_eq ok h0]
    rfl
  · cases h
def spec_l11Spot_dec (res : Res T) : Option Bool := match res.rets, res.outs with
  | [a0], [] => (retV (T := T) 4 a0).bind fun r0 => some (r0)
  | _, _ => none
def spec_l11Spot_enc (y : Bool) : Res T := ⟨[vR T 4 y], []⟩
theorem spec_l11Spot_de (res : Res T) (y : Bool) (h : spec_l11Spot_dec res = some y) : res = spec_l11Spot_enc y := by
  obtain ⟨rets, outs⟩ := res
  unfold spec_l11Spot_dec at h
  dsimp only at h
  split at h
  · obtain ⟨r0, h0, h⟩ := Option.bind_eq_some_iff.1 h
    cases h
    rw [retV_eq ok h0]
    rfl
  · cases h
def spec_l3Size_dec (res : Res T) : Option Int := match res.rets, res.outs with
  | [a0], [] => (retV (T := T) 3 a0).bind fun r0 => some (r0)
  | _, _ => none
def spec_l3Size_enc (y : Int) : Res T := ⟨[vR T 3 y], []⟩
theorem spec_l3Size_de (res : Res T) (y : Int) (h : spec_l3Size_dec res = some y) : res = spec_l3Size_enc y := by
  obtain ⟨rets, outs⟩ := res
  unfold spec_l3Size_dec at h
  dsimp only at h
  split at h
  · obtain ⟨r0, h0, h⟩ := Option.bind_eq_some_iff.1 h
    cases h
    rw [retV_eq ok h0]
    rfl
  · cases h
def spec_l1Least_dec (res : Res T) : Option Int := match res.rets, res.outs with
  | [a0], [] => (retV (T := T) 3 a0).bind fun r0 => some (r0)
  | _, _ => none
def spec_l1Least_enc (y : Int) : Res T := ⟨[vR T 3 y], []⟩
theorem spec_l1Least_de (res : Res T) (y : Int) (h : spec_l1Least_dec res = some y) : res = spec_l1Least_enc y := by
  obtain ⟨rets, outs⟩ := res
  unfold spec_l1Least_dec at h
  dsimp only at h
  split at h
  · obtain ⟨r0, h0, h⟩ := Option.bind_eq_some_iff.1 h
    cases h
    rw [retV_eq ok h0]
    rfl
  · cases h
def spec_Apart_dec (res : Res T) : Option Int := match res.rets, res.outs with
  | [a0], [] => (retV (T := T) 3 a0).bind fun r0 => some (r0)
  | _, _ => none
def spec_Apart_enc (y : Int) : Res T := ⟨[vR T 3 y], []⟩
theorem spec_Apart_de (res : Res T) (y : Int) (h : spec_Apart_dec res = some y) : res = spec_Apart_enc y := by
  obtain ⟨rets, outs⟩ := res
  unfold spec_Apart_dec at h
  dsimp only at h
  split at h
  · obtain ⟨r0, h0, h⟩ := Option.bind_eq_some_iff.1 h
    cases h
    rw [retV_eq ok h0]
    rfl
  · cases h
def spec_KeepsApart_dec (res : Res T) : Option Bool := match res.rets, res.outs with
  | [a0], [] => (retV (T := T) 4 a0).bind fun r0 => some (r0)
  | _, _ => none
def spec_KeepsApart_enc (y : Bool) : Res T := ⟨[vR T 4 y], []⟩
theorem spec_KeepsApart_de (res : Res T) (y : Bool) (h : spec_KeepsApart_dec res = some y) : res = spec_KeepsApart_enc y := by
  obtain ⟨rets, outs⟩ := res
  unfold spec_KeepsApart_dec at h
  dsimp only at h
  split at h
  · obtain ⟨r0, h0, h⟩ := Option.bind_eq_some_iff.1 h
    cases h
    rw [retV_eq ok h0]
    rfl
  · cases h
def spec_l12Fails_dec (res : Res T) : Option Bool := match res.rets, res.outs with
  | [a0], [] => (retV (T := T) 4 a0).bind fun r0 => some (r0)
  | _, _ => none
def spec_l12Fails_enc (y : Bool) : Res T := ⟨[vR T 4 y], []⟩
theorem spec_l12Fails_de (res : Res T) (y : Bool) (h : spec_l12Fails_dec res = some y) : res = spec_l12Fails_enc y := by
  obtain ⟨rets, outs⟩ := res
  unfold spec_l12Fails_dec at h
  dsimp only at h
  split at h
  · obtain ⟨r0, h0, h⟩ := Option.bind_eq_some_iff.1 h
    cases h
    rw [retV_eq ok h0]
    rfl
  · cases h
def spec_StowCode_dec (res : Res T) : Option (Int × Int) := match res.rets, res.outs with
  | [a0, a1], [] => (retV (T := T) 3 a0).bind fun r0 => (retV (T := T) 3 a1).bind fun r1 => some (r0, r1)
  | _, _ => none
def spec_StowCode_enc (y : Int × Int) : Res T := ⟨[vR T 3 y.1, vR T 3 y.2], []⟩
theorem spec_StowCode_de (res : Res T) (y : Int × Int) (h : spec_StowCode_dec res = some y) : res = spec_StowCode_enc y := by
  obtain ⟨rets, outs⟩ := res
  unfold spec_StowCode_dec at h
  dsimp only at h
  split at h
  · obtain ⟨r0, h0, h⟩ := Option.bind_eq_some_iff.1 h
    obtain ⟨r1, h1, h⟩ := Option.bind_eq_some_iff.1 h
    cases h
    rw [retV_eq ok h0, retV_eq ok h1]
    rfl
  · cases h
def spec_l12DrawStows_dec (res : Res T) : Option (List SStow × Sl1Cur) := match res.rets, res.outs with
  | [a0], [b0] => (retV (T := T) 34 a0).bind fun r0 => (outV (T := T) 160 b0).bind fun r1 => some (r0, r1)
  | _, _ => none
def spec_l12DrawStows_enc (y : List SStow × Sl1Cur) : Res T := ⟨[vR T 34 y.1], [.var 160 y.2]⟩
theorem spec_l12DrawStows_de (res : Res T) (y : List SStow × Sl1Cur) (h : spec_l12DrawStows_dec res = some y) : res = spec_l12DrawStows_enc y := by
  obtain ⟨rets, outs⟩ := res
  unfold spec_l12DrawStows_dec at h
  dsimp only at h
  split at h
  · obtain ⟨r0, h0, h⟩ := Option.bind_eq_some_iff.1 h
    obtain ⟨r1, h1, h⟩ := Option.bind_eq_some_iff.1 h
    cases h
    rw [retV_eq ok h0, outV_eq h1]
    rfl
  · cases h
def spec_l11DrawSpot_dec (res : Res T) : Option (SSpot × Sl1Cur) := match res.rets, res.outs with
  | [a0], [b0] => (retV (T := T) 45 a0).bind fun r0 => (outV (T := T) 160 b0).bind fun r1 => some (r0, r1)
  | _, _ => none
def spec_l11DrawSpot_enc (y : SSpot × Sl1Cur) : Res T := ⟨[vR T 45 y.1], [.var 160 y.2]⟩
theorem spec_l11DrawSpot_de (res : Res T) (y : SSpot × Sl1Cur) (h : spec_l11DrawSpot_dec res = some y) : res = spec_l11DrawSpot_enc y := by
  obtain ⟨rets, outs⟩ := res
  unfold spec_l11DrawSpot_dec at h
  dsimp only at h
  split at h
  · obtain ⟨r0, h0, h⟩ := Option.bind_eq_some_iff.1 h
    obtain ⟨r1, h1, h⟩ := Option.bind_eq_some_iff.1 h
    cases h
    rw [retV_eq ok h0, outV_eq h1]
    rfl
  · cases h
def spec_l1Pick_dec (res : Res T) : Option (ByteArray × Sl1Cur) := match res.rets, res.outs with
  | [a0], [b0] => (retV (T := T) 9 a0).bind fun r0 => (outV (T := T) 160 b0).bind fun r1 => some (r0, r1)
  | _, _ => none
def spec_l1Pick_enc (y : ByteArray × Sl1Cur) : Res T := ⟨[vR T 9 y.1], [.var 160 y.2]⟩
theorem spec_l1Pick_de (res : Res T) (y : ByteArray × Sl1Cur) (h : spec_l1Pick_dec res = some y) : res = spec_l1Pick_enc y := by
  obtain ⟨rets, outs⟩ := res
  unfold spec_l1Pick_dec at h
  dsimp only at h
  split at h
  · obtain ⟨r0, h0, h⟩ := Option.bind_eq_some_iff.1 h
    obtain ⟨r1, h1, h⟩ := Option.bind_eq_some_iff.1 h
    cases h
    rw [retV_eq ok h0, outV_eq h1]
    rfl
  · cases h
def spec_l11DrawText_dec (res : Res T) : Option (ByteArray × Sl1Cur) := match res.rets, res.outs with
  | [a0], [b0] => (retV (T := T) 9 a0).bind fun r0 => (outV (T := T) 160 b0).bind fun r1 => some (r0, r1)
  | _, _ => none
def spec_l11DrawText_enc (y : ByteArray × Sl1Cur) : Res T := ⟨[vR T 9 y.1], [.var 160 y.2]⟩
theorem spec_l11DrawText_de (res : Res T) (y : ByteArray × Sl1Cur) (h : spec_l11DrawText_dec res = some y) : res = spec_l11DrawText_enc y := by
  obtain ⟨rets, outs⟩ := res
  unfold spec_l11DrawText_dec at h
  dsimp only at h
  split at h
  · obtain ⟨r0, h0, h⟩ := Option.bind_eq_some_iff.1 h
    obtain ⟨r1, h1, h⟩ := Option.bind_eq_some_iff.1 h
    cases h
    rw [retV_eq ok h0, outV_eq h1]
    rfl
  · cases h
def spec_l11DrawAny_dec (res : Res T) : Option (SBox × Sl1Cur) := match res.rets, res.outs with
  | [a0], [b0] => (retV (T := T) 32 a0).bind fun r0 => (outV (T := T) 160 b0).bind fun r1 => some (r0, r1)
  | _, _ => none
def spec_l11DrawAny_enc (y : SBox × Sl1Cur) : Res T := ⟨[vR T 32 y.1], [.var 160 y.2]⟩
theorem spec_l11DrawAny_de (res : Res T) (y : SBox × Sl1Cur) (h : spec_l11DrawAny_dec res = some y) : res = spec_l11DrawAny_enc y := by
  obtain ⟨rets, outs⟩ := res
  unfold spec_l11DrawAny_dec at h
  dsimp only at h
  split at h
  · obtain ⟨r0, h0, h⟩ := Option.bind_eq_some_iff.1 h
    obtain ⟨r1, h1, h⟩ := Option.bind_eq_some_iff.1 h
    cases h
    rw [retV_eq ok h0, outV_eq h1]
    rfl
  · cases h
def spec_l12Muddle_dec (res : Res T) : Option (List SStow × Sl1Cur) := match res.rets, res.outs with
  | [a0], [b0] => (retV (T := T) 34 a0).bind fun r0 => (outV (T := T) 160 b0).bind fun r1 => some (r0, r1)
  | _, _ => none
def spec_l12Muddle_enc (y : List SStow × Sl1Cur) : Res T := ⟨[vR T 34 y.1], [.var 160 y.2]⟩
theorem spec_l12Muddle_de (res : Res T) (y : List SStow × Sl1Cur) (h : spec_l12Muddle_dec res = some y) : res = spec_l12Muddle_enc y := by
  obtain ⟨rets, outs⟩ := res
  unfold spec_l12Muddle_dec at h
  dsimp only at h
  split at h
  · obtain ⟨r0, h0, h⟩ := Option.bind_eq_some_iff.1 h
    obtain ⟨r1, h1, h⟩ := Option.bind_eq_some_iff.1 h
    cases h
    rw [retV_eq ok h0, outV_eq h1]
    rfl
  · cases h
def spec_DrawAtPort_dec (res : Res T) : Option (List SHatch × List SStow × Int × List SStow) := match res.rets, res.outs with
  | [a0, a1, a2, a3], [] => (retV (T := T) 33 a0).bind fun r0 => (retV (T := T) 34 a1).bind fun r1 => (retV (T := T) 3 a2).bind fun r2 => (retV (T := T) 34 a3).bind fun r3 => some (r0, r1, r2, r3)
  | _, _ => none
def spec_DrawAtPort_enc (y : List SHatch × List SStow × Int × List SStow) : Res T := ⟨[vR T 33 y.1, vR T 34 y.2.1, vR T 3 y.2.2.1, vR T 34 y.2.2.2], []⟩
theorem spec_DrawAtPort_de (res : Res T) (y : List SHatch × List SStow × Int × List SStow) (h : spec_DrawAtPort_dec res = some y) : res = spec_DrawAtPort_enc y := by
  obtain ⟨rets, outs⟩ := res
  unfold spec_DrawAtPort_dec at h
  dsimp only at h
  split at h
  · obtain ⟨r0, h0, h⟩ := Option.bind_eq_some_iff.1 h
    obtain ⟨r1, h1, h⟩ := Option.bind_eq_some_iff.1 h
    obtain ⟨r2, h2, h⟩ := Option.bind_eq_some_iff.1 h
    obtain ⟨r3, h3, h⟩ := Option.bind_eq_some_iff.1 h
    cases h
    rw [retV_eq ok h0, retV_eq ok h1, retV_eq ok h2, retV_eq ok h3]
    rfl
  · cases h
def impl_own_impl_Stow_dec (res : Res T) : Option (List SStow) := match res.rets, res.outs with
  | [a0], [] => (retV (T := T) 34 a0).bind fun r0 => some (r0)
  | _, _ => none
def impl_own_impl_Stow_enc (y : List SStow) : Res T := ⟨[vR T 34 y], []⟩
theorem impl_own_impl_Stow_de (res : Res T) (y : List SStow) (h : impl_own_impl_Stow_dec res = some y) : res = impl_own_impl_Stow_enc y := by
  obtain ⟨rets, outs⟩ := res
  unfold impl_own_impl_Stow_dec at h
  dsimp only at h
  split at h
  · obtain ⟨r0, h0, h⟩ := Option.bind_eq_some_iff.1 h
    cases h
    rw [retV_eq ok h0]
    rfl
  · cases h
def impl_in_dec (res : Res T) : Option Bool := match res.rets, res.outs with
  | [a0], [] => (retV (T := T) 4 a0).bind fun r0 => some (r0)
  | _, _ => none
def impl_in_enc (y : Bool) : Res T := ⟨[vR T 4 y], []⟩
theorem impl_in_de (res : Res T) (y : Bool) (h : impl_in_dec res = some y) : res = impl_in_enc y := by
  obtain ⟨rets, outs⟩ := res
  unfold impl_in_dec at h
  dsimp only at h
  split at h
  · obtain ⟨r0, h0, h⟩ := Option.bind_eq_some_iff.1 h
    cases h
    rw [retV_eq ok h0]
    rfl
  · cases h
def impl_HatchesOk_1_dec (res : Res T) : Option Bool := match res.rets, res.outs with
  | [a0], [] => (retV (T := T) 4 a0).bind fun r0 => some (r0)
  | _, _ => none
def impl_HatchesOk_1_enc (y : Bool) : Res T := ⟨[vR T 4 y], []⟩
theorem impl_HatchesOk_1_de (res : Res T) (y : Bool) (h : impl_HatchesOk_1_dec res = some y) : res = impl_HatchesOk_1_enc y := by
  obtain ⟨rets, outs⟩ := res
  unfold impl_HatchesOk_1_dec at h
  dsimp only at h
  split at h
  · obtain ⟨r0, h0, h⟩ := Option.bind_eq_some_iff.1 h
    cases h
    rw [retV_eq ok h0]
    rfl
  · cases h
def slices_IndexFunc_impl_Hatch_impl_Hatch__impl_HatchesOk_1_dec (res : Res T) : Option Int := match res.rets, res.outs with
  | [a0], [] => (retV (T := T) 3 a0).bind fun r0 => some (r0)
  | _, _ => none
def slices_IndexFunc_impl_Hatch_impl_Hatch__impl_HatchesOk_1_enc (y : Int) : Res T := ⟨[vR T 3 y], []⟩
theorem slices_IndexFunc_impl_Hatch_impl_Hatch__impl_HatchesOk_1_de (res : Res T) (y : Int) (h : slices_IndexFunc_impl_Hatch_impl_Hatch__impl_HatchesOk_1_dec res = some y) : res = slices_IndexFunc_impl_Hatch_impl_Hatch__impl_HatchesOk_1_enc y := by
  obtain ⟨rets, outs⟩ := res
  unfold slices_IndexFunc_impl_Hatch_impl_Hatch__impl_HatchesOk_1_dec at h
  dsimp only at h
  split at h
  · obtain ⟨r0, h0, h⟩ := Option.bind_eq_some_iff.1 h
    cases h
    rw [retV_eq ok h0]
    rfl
  · cases h
def slices_ContainsFunc_impl_Hatch_impl_Hatch__impl_HatchesOk_1_dec (res : Res T) : Option Bool := match res.rets, res.outs with
  | [a0], [] => (retV (T := T) 4 a0).bind fun r0 => some (r0)
  | _, _ => none
def slices_ContainsFunc_impl_Hatch_impl_Hatch__impl_HatchesOk_1_enc (y : Bool) : Res T := ⟨[vR T 4 y], []⟩
theorem slices_ContainsFunc_impl_Hatch_impl_Hatch__impl_HatchesOk_1_de (res : Res T) (y : Bool) (h : slices_ContainsFunc_impl_Hatch_impl_Hatch__impl_HatchesOk_1_dec res = some y) : res = slices_ContainsFunc_impl_Hatch_impl_Hatch__impl_HatchesOk_1_enc y := by
  obtain ⟨rets, outs⟩ := res
  unfold slices_ContainsFunc_impl_Hatch_impl_Hatch__impl_HatchesOk_1_dec at h
  dsimp only at h
  split at h
  · obtain ⟨r0, h0, h⟩ := Option.bind_eq_some_iff.1 h
    cases h
    rw [retV_eq ok h0]
    rfl
  · cases h
def impl_HatchesOk_dec (res : Res T) : Option Bool := match res.rets, res.outs with
  | [a0], [] => (retV (T := T) 4 a0).bind fun r0 => some (r0)
  | _, _ => none
def impl_HatchesOk_enc (y : Bool) : Res T := ⟨[vR T 4 y], []⟩
theorem impl_HatchesOk_de (res : Res T) (y : Bool) (h : impl_HatchesOk_dec res = some y) : res = impl_HatchesOk_enc y := by
  obtain ⟨rets, outs⟩ := res
  unfold impl_HatchesOk_dec at h
  dsimp only at h
  split at h
  · obtain ⟨r0, h0, h⟩ := Option.bind_eq_some_iff.1 h
    cases h
    rw [retV_eq ok h0]
    rfl
  · cases h
def impl_valueOf_dec (res : Res T) : Option Int := match res.rets, res.outs with
  | [a0], [] => (retV (T := T) 3 a0).bind fun r0 => some (r0)
  | _, _ => none
def impl_valueOf_enc (y : Int) : Res T := ⟨[vR T 3 y], []⟩
theorem impl_valueOf_de (res : Res T) (y : Int) (h : impl_valueOf_dec res = some y) : res = impl_valueOf_enc y := by
  obtain ⟨rets, outs⟩ := res
  unfold impl_valueOf_dec at h
  dsimp only at h
  split at h
  · obtain ⟨r0, h0, h⟩ := Option.bind_eq_some_iff.1 h
    cases h
    rw [retV_eq ok h0]
    rfl
  · cases h
def impl_CheckDigit_dec (res : Res T) : Option Int := match res.rets, res.outs with
  | [a0], [] => (retV (T := T) 3 a0).bind fun r0 => some (r0)
  | _, _ => none
def impl_CheckDigit_enc (y : Int) : Res T := ⟨[vR T 3 y], []⟩
theorem impl_CheckDigit_de (res : Res T) (y : Int) (h : impl_CheckDigit_dec res = some y) : res = impl_CheckDigit_enc y := by
  obtain ⟨rets, outs⟩ := res
  unfold impl_CheckDigit_dec at h
  dsimp only at h
  split at h
  · obtain ⟨r0, h0, h⟩ := Option.bind_eq_some_iff.1 h
    cases h
    rw [retV_eq ok h0]
    rfl
  · cases h
def impl_BoxName_dec (res : Res T) : Option Bool := match res.rets, res.outs with
  | [a0], [] => (retV (T := T) 4 a0).bind fun r0 => some (r0)
  | _, _ => none
def impl_BoxName_enc (y : Bool) : Res T := ⟨[vR T 4 y], []⟩
theorem impl_BoxName_de (res : Res T) (y : Bool) (h : impl_BoxName_dec res = some y) : res = impl_BoxName_enc y := by
  obtain ⟨rets, outs⟩ := res
  unfold impl_BoxName_dec at h
  dsimp only at h
  split at h
  · obtain ⟨r0, h0, h⟩ := Option.bind_eq_some_iff.1 h
    cases h
    rw [retV_eq ok h0]
    rfl
  · cases h
def impl_portOk_dec (res : Res T) : Option Bool := match res.rets, res.outs with
  | [a0], [] => (retV (T := T) 4 a0).bind fun r0 => some (r0)
  | _, _ => none
def impl_portOk_enc (y : Bool) : Res T := ⟨[vR T 4 y], []⟩
theorem impl_portOk_de (res : Res T) (y : Bool) (h : impl_portOk_dec res = some y) : res = impl_portOk_enc y := by
  obtain ⟨rets, outs⟩ := res
  unfold impl_portOk_dec at h
  dsimp only at h
  split at h
  · obtain ⟨r0, h0, h⟩ := Option.bind_eq_some_iff.1 h
    cases h
    rw [retV_eq ok h0]
    rfl
  · cases h
def impl_BoxOk_dec (res : Res T) : Option Bool := match res.rets, res.outs with
  | [a0], [] => (retV (T := T) 4 a0).bind fun r0 => some (r0)
  | _, _ => none
def impl_BoxOk_enc (y : Bool) : Res T := ⟨[vR T 4 y], []⟩
theorem impl_BoxOk_de (res : Res T) (y : Bool) (h : impl_BoxOk_dec res = some y) : res = impl_BoxOk_enc y := by
  obtain ⟨rets, outs⟩ := res
  unfold impl_BoxOk_dec at h
  dsimp only at h
  split at h
  · obtain ⟨r0, h0, h⟩ := Option.bind_eq_some_iff.1 h
    cases h
    rw [retV_eq ok h0]
    rfl
  · cases h
def impl_StowCode_1_dec (res : Res T) : Option Bool := match res.rets, res.outs with
  | [a0], [] => (retV (T := T) 4 a0).bind fun r0 => some (r0)
  | _, _ => none
def impl_StowCode_1_enc (y : Bool) : Res T := ⟨[vR T 4 y], []⟩
theorem impl_StowCode_1_de (res : Res T) (y : Bool) (h : impl_StowCode_1_dec res = some y) : res = impl_StowCode_1_enc y := by
  obtain ⟨rets, outs⟩ := res
  unfold impl_StowCode_1_dec at h
  dsimp only at h
  split at h
  · obtain ⟨r0, h0, h⟩ := Option.bind_eq_some_iff.1 h
    cases h
    rw [retV_eq ok h0]
    rfl
  · cases h
def impl_StowCode_2_1_dec (res : Res T) : Option Bool := match res.rets, res.outs with
  | [a0], [] => (retV (T := T) 4 a0).bind fun r0 => some (r0)
  | _, _ => none
def impl_StowCode_2_1_enc (y : Bool) : Res T := ⟨[vR T 4 y], []⟩
theorem impl_StowCode_2_1_de (res : Res T) (y : Bool) (h : impl_StowCode_2_1_dec res = some y) : res = impl_StowCode_2_1_enc y := by
  obtain ⟨rets, outs⟩ := res
  unfold impl_StowCode_2_1_dec at h
  dsimp only at h
  split at h
  · obtain ⟨r0, h0, h⟩ := Option.bind_eq_some_iff.1 h
    cases h
    rw [retV_eq ok h0]
    rfl
  · cases h
def slices_IndexFunc_impl_Stow_impl_Stow__impl_StowCode_2_1_dec (res : Res T) : Option Int := match res.rets, res.outs with
  | [a0], [] => (retV (T := T) 3 a0).bind fun r0 => some (r0)
  | _, _ => none
def slices_IndexFunc_impl_Stow_impl_Stow__impl_StowCode_2_1_enc (y : Int) : Res T := ⟨[vR T 3 y], []⟩
theorem slices_IndexFunc_impl_Stow_impl_Stow__impl_StowCode_2_1_de (res : Res T) (y : Int) (h : slices_IndexFunc_impl_Stow_impl_Stow__impl_StowCode_2_1_dec res = some y) : res = slices_IndexFunc_impl_Stow_impl_Stow__impl_StowCode_2_1_enc y := by
  obtain ⟨rets, outs⟩ := res
  unfold slices_IndexFunc_impl_Stow_impl_Stow__impl_StowCode_2_1_dec at h
  dsimp only at h
  split at h
  · obtain ⟨r0, h0, h⟩ := Option.bind_eq_some_iff.1 h
    cases h
    rw [retV_eq ok h0]
    rfl
  · cases h
def slices_ContainsFunc_impl_Stow_impl_Stow__impl_StowCode_2_1_dec (res : Res T) : Option Bool := match res.rets, res.outs with
  | [a0], [] => (retV (T := T) 4 a0).bind fun r0 => some (r0)
  | _, _ => none
def slices_ContainsFunc_impl_Stow_impl_Stow__impl_StowCode_2_1_enc (y : Bool) : Res T := ⟨[vR T 4 y], []⟩
theorem slices_ContainsFunc_impl_Stow_impl_Stow__impl_StowCode_2_1_de (res : Res T) (y : Bool) (h : slices_ContainsFunc_impl_Stow_impl_Stow__impl_StowCode_2_1_dec res = some y) : res = slices_ContainsFunc_impl_Stow_impl_Stow__impl_StowCode_2_1_enc y := by
  obtain ⟨rets, outs⟩ := res
  unfold slices_ContainsFunc_impl_Stow_impl_Stow__impl_StowCode_2_1_dec at h
  dsimp only at h
  split at h
  · obtain ⟨r0, h0, h⟩ := Option.bind_eq_some_iff.1 h
    cases h
    rw [retV_eq ok h0]
    rfl
  · cases h
def impl_StowCode_2_dec (res : Res T) : Option Bool := match res.rets, res.outs with
  | [a0], [] => (retV (T := T) 4 a0).bind fun r0 => some (r0)
  | _, _ => none
def impl_StowCode_2_enc (y : Bool) : Res T := ⟨[vR T 4 y], []⟩
theorem impl_StowCode_2_de (res : Res T) (y : Bool) (h : impl_StowCode_2_dec res = some y) : res = impl_StowCode_2_enc y := by
  obtain ⟨rets, outs⟩ := res
  unfold impl_StowCode_2_dec at h
  dsimp only at h
  split at h
  · obtain ⟨r0, h0, h⟩ := Option.bind_eq_some_iff.1 h
    cases h
    rw [retV_eq ok h0]
    rfl
  · cases h
def impl_StowCode_3_dec (res : Res T) : Option Bool := match res.rets, res.outs with
  | [a0], [] => (retV (T := T) 4 a0).bind fun r0 => some (r0)
  | _, _ => none
def impl_StowCode_3_enc (y : Bool) : Res T := ⟨[vR T 4 y], []⟩
theorem impl_StowCode_3_de (res : Res T) (y : Bool) (h : impl_StowCode_3_dec res = some y) : res = impl_StowCode_3_enc y := by
  obtain ⟨rets, outs⟩ := res
  unfold impl_StowCode_3_dec at h
  dsimp only at h
  split at h
  · obtain ⟨r0, h0, h⟩ := Option.bind_eq_some_iff.1 h
    cases h
    rw [retV_eq ok h0]
    rfl
  · cases h
def impl_StowCode_4_1_dec (res : Res T) : Option Bool := match res.rets, res.outs with
  | [a0], [] => (retV (T := T) 4 a0).bind fun r0 => some (r0)
  | _, _ => none
def impl_StowCode_4_1_enc (y : Bool) : Res T := ⟨[vR T 4 y], []⟩
theorem impl_StowCode_4_1_de (res : Res T) (y : Bool) (h : impl_StowCode_4_1_dec res = some y) : res = impl_StowCode_4_1_enc y := by
  obtain ⟨rets, outs⟩ := res
  unfold impl_StowCode_4_1_dec at h
  dsimp only at h
  split at h
  · obtain ⟨r0, h0, h⟩ := Option.bind_eq_some_iff.1 h
    cases h
    rw [retV_eq ok h0]
    rfl
  · cases h
def slices_IndexFunc_impl_Stow_impl_Stow__impl_StowCode_4_1_dec (res : Res T) : Option Int := match res.rets, res.outs with
  | [a0], [] => (retV (T := T) 3 a0).bind fun r0 => some (r0)
  | _, _ => none
def slices_IndexFunc_impl_Stow_impl_Stow__impl_StowCode_4_1_enc (y : Int) : Res T := ⟨[vR T 3 y], []⟩
theorem slices_IndexFunc_impl_Stow_impl_Stow__impl_StowCode_4_1_de (res : Res T) (y : Int) (h : slices_IndexFunc_impl_Stow_impl_Stow__impl_StowCode_4_1_dec res = some y) : res = slices_IndexFunc_impl_Stow_impl_Stow__impl_StowCode_4_1_enc y := by
  obtain ⟨rets, outs⟩ := res
  unfold slices_IndexFunc_impl_Stow_impl_Stow__impl_StowCode_4_1_dec at h
  dsimp only at h
  split at h
  · obtain ⟨r0, h0, h⟩ := Option.bind_eq_some_iff.1 h
    cases h
    rw [retV_eq ok h0]
    rfl
  · cases h
def slices_ContainsFunc_impl_Stow_impl_Stow__impl_StowCode_4_1_dec (res : Res T) : Option Bool := match res.rets, res.outs with
  | [a0], [] => (retV (T := T) 4 a0).bind fun r0 => some (r0)
  | _, _ => none
def slices_ContainsFunc_impl_Stow_impl_Stow__impl_StowCode_4_1_enc (y : Bool) : Res T := ⟨[vR T 4 y], []⟩
theorem slices_ContainsFunc_impl_Stow_impl_Stow__impl_StowCode_4_1_de (res : Res T) (y : Bool) (h : slices_ContainsFunc_impl_Stow_impl_Stow__impl_StowCode_4_1_dec res = some y) : res = slices_ContainsFunc_impl_Stow_impl_Stow__impl_StowCode_4_1_enc y := by
  obtain ⟨rets, outs⟩ := res
  unfold slices_ContainsFunc_impl_Stow_impl_Stow__impl_StowCode_4_1_dec at h
  dsimp only at h
  split at h
  · obtain ⟨r0, h0, h⟩ := Option.bind_eq_some_iff.1 h
    cases h
    rw [retV_eq ok h0]
    rfl
  · cases h
def impl_StowCode_4_dec (res : Res T) : Option Bool := match res.rets, res.outs with
  | [a0], [] => (retV (T := T) 4 a0).bind fun r0 => some (r0)
  | _, _ => none
def impl_StowCode_4_enc (y : Bool) : Res T := ⟨[vR T 4 y], []⟩
theorem impl_StowCode_4_de (res : Res T) (y : Bool) (h : impl_StowCode_4_dec res = some y) : res = impl_StowCode_4_enc y := by
  obtain ⟨rets, outs⟩ := res
  unfold impl_StowCode_4_dec at h
  dsimp only at h
  split at h
  · obtain ⟨r0, h0, h⟩ := Option.bind_eq_some_iff.1 h
    cases h
    rw [retV_eq ok h0]
    rfl
  · cases h
def cmp_isNaN_int_dec (res : Res T) : Option Bool := match res.rets, res.outs with
  | [a0], [] => (retV (T := T) 4 a0).bind fun r0 => some (r0)
  | _, _ => none
def cmp_isNaN_int_enc (y : Bool) : Res T := ⟨[vR T 4 y], []⟩
theorem cmp_isNaN_int_de (res : Res T) (y : Bool) (h : cmp_isNaN_int_dec res = some y) : res = cmp_isNaN_int_enc y := by
  obtain ⟨rets, outs⟩ := res
  unfold cmp_isNaN_int_dec at h
  dsimp only at h
  split at h
  · obtain ⟨r0, h0, h⟩ := Option.bind_eq_some_iff.1 h
    cases h
    rw [retV_eq ok h0]
    rfl
  · cases h
def cmp_Compare_int_dec (res : Res T) : Option Int := match res.rets, res.outs with
  | [a0], [] => (retV (T := T) 3 a0).bind fun r0 => some (r0)
  | _, _ => none
def cmp_Compare_int_enc (y : Int) : Res T := ⟨[vR T 3 y], []⟩
theorem cmp_Compare_int_de (res : Res T) (y : Int) (h : cmp_Compare_int_dec res = some y) : res = cmp_Compare_int_enc y := by
  obtain ⟨rets, outs⟩ := res
  unfold cmp_Compare_int_dec at h
  dsimp only at h
  split at h
  · obtain ⟨r0, h0, h⟩ := Option.bind_eq_some_iff.1 h
    cases h
    rw [retV_eq ok h0]
    rfl
  · cases h
def impl_stackOf_1_dec (res : Res T) : Option Int := match res.rets, res.outs with
  | [a0], [] => (retV (T := T) 3 a0).bind fun r0 => some (r0)
  | _, _ => none
def impl_stackOf_1_enc (y : Int) : Res T := ⟨[vR T 3 y], []⟩
theorem impl_stackOf_1_de (res : Res T) (y : Int) (h : impl_stackOf_1_dec res = some y) : res = impl_stackOf_1_enc y := by
  obtain ⟨rets, outs⟩ := res
  unfold impl_stackOf_1_dec at h
  dsimp only at h
  split at h
  · obtain ⟨r0, h0, h⟩ := Option.bind_eq_some_iff.1 h
    cases h
    rw [retV_eq ok h0]
    rfl
  · cases h
def slices_SortFunc_impl_Stow_impl_Stow__impl_stackOf_1_dec (res : Res T) : Option (List SStow) := match res.rets, res.outs with
  | [], [b0] => (outS (T := T) 47 b0).bind fun r0 => some (r0)
  | _, _ => none
def slices_SortFunc_impl_Stow_impl_Stow__impl_stackOf_1_enc (y : List SStow) : Res T := ⟨[], [.sl 47 y]⟩
theorem slices_SortFunc_impl_Stow_impl_Stow__impl_stackOf_1_de (res : Res T) (y : List SStow) (h : slices_SortFunc_impl_Stow_impl_Stow__impl_stackOf_1_dec res = some y) : res = slices_SortFunc_impl_Stow_impl_Stow__impl_stackOf_1_enc y := by
  obtain ⟨rets, outs⟩ := res
  unfold slices_SortFunc_impl_Stow_impl_Stow__impl_stackOf_1_dec at h
  dsimp only at h
  split at h
  · obtain ⟨r0, h0, h⟩ := Option.bind_eq_some_iff.1 h
    cases h
    rw [outS_eq h0]
    rfl
  · cases h
def impl_stackOf_dec (res : Res T) : Option (List SBox) := match res.rets, res.outs with
  | [a0], [] => (retV (T := T) 24 a0).bind fun r0 => some (r0)
  | _, _ => none
def impl_stackOf_enc (y : List SBox) : Res T := ⟨[vR T 24 y], []⟩
theorem impl_stackOf_de (res : Res T) (y : List SBox) (h : impl_stackOf_dec res = some y) : res = impl_stackOf_enc y := by
  obtain ⟨rets, outs⟩ := res
  unfold impl_stackOf_dec at h
  dsimp only at h
  split at h
  · obtain ⟨r0, h0, h⟩ := Option.bind_eq_some_iff.1 h
    cases h
    rw [retV_eq ok h0]
    rfl
  · cases h
def impl_StackOk_dec (res : Res T) : Option Bool := match res.rets, res.outs with
  | [a0], [] => (retV (T := T) 4 a0).bind fun r0 => some (r0)
  | _, _ => none
def impl_StackOk_enc (y : Bool) : Res T := ⟨[vR T 4 y], []⟩
theorem impl_StackOk_de (res : Res T) (y : Bool) (h : impl_StackOk_dec res = some y) : res = impl_StackOk_enc y := by
  obtain ⟨rets, outs⟩ := res
  unfold impl_StackOk_dec at h
  dsimp only at h
  split at h
  · obtain ⟨r0, h0, h⟩ := Option.bind_eq_some_iff.1 h
    cases h
    rw [retV_eq ok h0]
    rfl
  · cases h
def impl_StowCode_5_dec (res : Res T) : Option Bool := match res.rets, res.outs with
  | [a0], [] => (retV (T := T) 4 a0).bind fun r0 => some (r0)
  | _, _ => none
def impl_StowCode_5_enc (y : Bool) : Res T := ⟨[vR T 4 y], []⟩
theorem impl_StowCode_5_de (res : Res T) (y : Bool) (h : impl_StowCode_5_dec res = some y) : res = impl_StowCode_5_enc y := by
  obtain ⟨rets, outs⟩ := res
  unfold impl_StowCode_5_dec at h
  dsimp only at h
  split at h
  · obtain ⟨r0, h0, h⟩ := Option.bind_eq_some_iff.1 h
    cases h
    rw [retV_eq ok h0]
    rfl
  · cases h
def impl_StowCode_6_dec (res : Res T) : Option Bool := match res.rets, res.outs with
  | [a0], [] => (retV (T := T) 4 a0).bind fun r0 => some (r0)
  | _, _ => none
def impl_StowCode_6_enc (y : Bool) : Res T := ⟨[vR T 4 y], []⟩
theorem impl_StowCode_6_de (res : Res T) (y : Bool) (h : impl_StowCode_6_dec res = some y) : res = impl_StowCode_6_enc y := by
  obtain ⟨rets, outs⟩ := res
  unfold impl_StowCode_6_dec at h
  dsimp only at h
  split at h
  · obtain ⟨r0, h0, h⟩ := Option.bind_eq_some_iff.1 h
    cases h
    rw [retV_eq ok h0]
    rfl
  · cases h
def impl_spotOk_dec (res : Res T) : Option Bool := match res.rets, res.outs with
  | [a0], [] => (retV (T := T) 4 a0).bind fun r0 => some (r0)
  | _, _ => none
def impl_spotOk_enc (y : Bool) : Res T := ⟨[vR T 4 y], []⟩
theorem impl_spotOk_de (res : Res T) (y : Bool) (h : impl_spotOk_dec res = some y) : res = impl_spotOk_enc y := by
  obtain ⟨rets, outs⟩ := res
  unfold impl_spotOk_dec at h
  dsimp only at h
  split at h
  · obtain ⟨r0, h0, h⟩ := Option.bind_eq_some_iff.1 h
    cases h
    rw [retV_eq ok h0]
    rfl
  · cases h
def impl_size_dec (res : Res T) : Option Int := match res.rets, res.outs with
  | [a0], [] => (retV (T := T) 3 a0).bind fun r0 => some (r0)
  | _, _ => none
def impl_size_enc (y : Int) : Res T := ⟨[vR T 3 y], []⟩
theorem impl_size_de (res : Res T) (y : Int) (h : impl_size_dec res = some y) : res = impl_size_enc y := by
  obtain ⟨rets, outs⟩ := res
  unfold impl_size_dec at h
  dsimp only at h
  split at h
  · obtain ⟨r0, h0, h⟩ := Option.bind_eq_some_iff.1 h
    cases h
    rw [retV_eq ok h0]
    rfl
  · cases h
def impl_Apart_dec (res : Res T) : Option Int := match res.rets, res.outs with
  | [a0], [] => (retV (T := T) 3 a0).bind fun r0 => some (r0)
  | _, _ => none
def impl_Apart_enc (y : Int) : Res T := ⟨[vR T 3 y], []⟩
theorem impl_Apart_de (res : Res T) (y : Int) (h : impl_Apart_dec res = some y) : res = impl_Apart_enc y := by
  obtain ⟨rets, outs⟩ := res
  unfold impl_Apart_dec at h
  dsimp only at h
  split at h
  · obtain ⟨r0, h0, h⟩ := Option.bind_eq_some_iff.1 h
    cases h
    rw [retV_eq ok h0]
    rfl
  · cases h
def impl_KeepsApart_dec (res : Res T) : Option Bool := match res.rets, res.outs with
  | [a0], [] => (retV (T := T) 4 a0).bind fun r0 => some (r0)
  | _, _ => none
def impl_KeepsApart_enc (y : Bool) : Res T := ⟨[vR T 4 y], []⟩
theorem impl_KeepsApart_de (res : Res T) (y : Bool) (h : impl_KeepsApart_dec res = some y) : res = impl_KeepsApart_enc y := by
  obtain ⟨rets, outs⟩ := res
  unfold impl_KeepsApart_dec at h
  dsimp only at h
  split at h
  · obtain ⟨r0, h0, h⟩ := Option.bind_eq_some_iff.1 h
    cases h
    rw [retV_eq ok h0]
    rfl
  · cases h
def impl_StowCode_7_1_dec (res : Res T) : Option Bool := match res.rets, res.outs with
  | [a0], [] => (retV (T := T) 4 a0).bind fun r0 => some (r0)
  | _, _ => none
def impl_StowCode_7_1_enc (y : Bool) : Res T := ⟨[vR T 4 y], []⟩
theorem impl_StowCode_7_1_de (res : Res T) (y : Bool) (h : impl_StowCode_7_1_dec res = some y) : res = impl_StowCode_7_1_enc y := by
  obtain ⟨rets, outs⟩ := res
  unfold impl_StowCode_7_1_dec at h
  dsimp only at h
  split at h
  · obtain ⟨r0, h0, h⟩ := Option.bind_eq_some_iff.1 h
    cases h
    rw [retV_eq ok h0]
    rfl
  · cases h
def slices_IndexFunc_impl_Stow_impl_Stow__impl_StowCode_7_1_dec (res : Res T) : Option Int := match res.rets, res.outs with
  | [a0], [] => (retV (T := T) 3 a0).bind fun r0 => some (r0)
  | _, _ => none
def slices_IndexFunc_impl_Stow_impl_Stow__impl_StowCode_7_1_enc (y : Int) : Res T := ⟨[vR T 3 y], []⟩
theorem slices_IndexFunc_impl_Stow_impl_Stow__impl_StowCode_7_1_de (res : Res T) (y : Int) (h : slices_IndexFunc_impl_Stow_impl_Stow__impl_StowCode_7_1_dec res = some y) : res = slices_IndexFunc_impl_Stow_impl_Stow__impl_StowCode_7_1_enc y := by
  obtain ⟨rets, outs⟩ := res
  unfold slices_IndexFunc_impl_Stow_impl_Stow__impl_StowCode_7_1_dec at h
  dsimp only at h
  split at h
  · obtain ⟨r0, h0, h⟩ := Option.bind_eq_some_iff.1 h
    cases h
    rw [retV_eq ok h0]
    rfl
  · cases h
def slices_ContainsFunc_impl_Stow_impl_Stow__impl_StowCode_7_1_dec (res : Res T) : Option Bool := match res.rets, res.outs with
  | [a0], [] => (retV (T := T) 4 a0).bind fun r0 => some (r0)
  | _, _ => none
def slices_ContainsFunc_impl_Stow_impl_Stow__impl_StowCode_7_1_enc (y : Bool) : Res T := ⟨[vR T 4 y], []⟩
theorem slices_ContainsFunc_impl_Stow_impl_Stow__impl_StowCode_7_1_de (res : Res T) (y : Bool) (h : slices_ContainsFunc_impl_Stow_impl_Stow__impl_StowCode_7_1_dec res = some y) : res = slices_ContainsFunc_impl_Stow_impl_Stow__impl_StowCode_7_1_enc y := by
  obtain ⟨rets, outs⟩ := res
  unfold slices_ContainsFunc_impl_Stow_impl_Stow__impl_StowCode_7_1_dec at h
  dsimp only at h
  split at h
  · obtain ⟨r0, h0, h⟩ := Option.bind_eq_some_iff.1 h
    cases h
    rw [retV_eq ok h0]
    rfl
  · cases h
def impl_StowCode_7_dec (res : Res T) : Option Bool := match res.rets, res.outs with
  | [a0], [] => (retV (T := T) 4 a0).bind fun r0 => some (r0)
  | _, _ => none
def impl_StowCode_7_enc (y : Bool) : Res T := ⟨[vR T 4 y], []⟩
theorem impl_StowCode_7_de (res : Res T) (y : Bool) (h : impl_StowCode_7_dec res = some y) : res = impl_StowCode_7_enc y := by
  obtain ⟨rets, outs⟩ := res
  unfold impl_StowCode_7_dec at h
  dsimp only at h
  split at h
  · obtain ⟨r0, h0, h⟩ := Option.bind_eq_some_iff.1 h
    cases h
    rw [retV_eq ok h0]
    rfl
  · cases h
def impl_StowCode_dec (res : Res T) : Option (Int × Int) := match res.rets, res.outs with
  | [a0, a1], [] => (retV (T := T) 3 a0).bind fun r0 => (retV (T := T) 3 a1).bind fun r1 => some (r0, r1)
  | _, _ => none
def impl_StowCode_enc (y : Int × Int) : Res T := ⟨[vR T 3 y.1, vR T 3 y.2], []⟩
theorem impl_StowCode_de (res : Res T) (y : Int × Int) (h : impl_StowCode_dec res = some y) : res = impl_StowCode_enc y := by
  obtain ⟨rets, outs⟩ := res
  unfold impl_StowCode_dec at h
  dsimp only at h
  split at h
  · obtain ⟨r0, h0, h⟩ := Option.bind_eq_some_iff.1 h
    obtain ⟨r1, h1, h⟩ := Option.bind_eq_some_iff.1 h
    cases h
    rw [retV_eq ok h0, retV_eq ok h1]
    rfl
  · cases h
def impl_over_dec (res : Res T) : Option Bool := match res.rets, res.outs with
  | [a0], [] => (retV (T := T) 4 a0).bind fun r0 => some (r0)
  | _, _ => none
def impl_over_enc (y : Bool) : Res T := ⟨[vR T 4 y], []⟩
theorem impl_over_de (res : Res T) (y : Bool) (h : impl_over_dec res = some y) : res = impl_over_enc y := by
  obtain ⟨rets, outs⟩ := res
  unfold impl_over_dec at h
  dsimp only at h
  split at h
  · obtain ⟨r0, h0, h⟩ := Option.bind_eq_some_iff.1 h
    cases h
    rw [retV_eq ok h0]
    rfl
  · cases h
def impl_own_int_dec (res : Res T) : Option (List Int) := match res.rets, res.outs with
  | [a0], [] => (retV (T := T) 41 a0).bind fun r0 => some (r0)
  | _, _ => none
def impl_own_int_enc (y : List Int) : Res T := ⟨[vR T 41 y], []⟩
theorem impl_own_int_de (res : Res T) (y : List Int) (h : impl_own_int_dec res = some y) : res = impl_own_int_enc y := by
  obtain ⟨rets, outs⟩ := res
  unfold impl_own_int_dec at h
  dsimp only at h
  split at h
  · obtain ⟨r0, h0, h⟩ := Option.bind_eq_some_iff.1 h
    cases h
    rw [retV_eq ok h0]
    rfl
  · cases h
def impl_Shifts_dec (res : Res T) : Option (List Int × Bool) := match res.rets, res.outs with
  | [a0, a1], [] => (retV (T := T) 41 a0).bind fun r0 => (retV (T := T) 4 a1).bind fun r1 => some (r0, r1)
  | _, _ => none
def impl_Shifts_enc (y : List Int × Bool) : Res T := ⟨[vR T 41 y.1, vR T 4 y.2], []⟩
theorem impl_Shifts_de (res : Res T) (y : List Int × Bool) (h : impl_Shifts_dec res = some y) : res = impl_Shifts_enc y := by
  obtain ⟨rets, outs⟩ := res
  unfold impl_Shifts_dec at h
  dsimp only at h
  split at h
  · obtain ⟨r0, h0, h⟩ := Option.bind_eq_some_iff.1 h
    obtain ⟨r1, h1, h⟩ := Option.bind_eq_some_iff.1 h
    cases h
    rw [retV_eq ok h0, retV_eq ok h1]
    rfl
  · cases h
def impl_AtPort_dec (res : Res T) : Option (List SStow × Int × Int) := match res.rets, res.outs with
  | [a0, a1, a2], [] => (retV (T := T) 34 a0).bind fun r0 => (retV (T := T) 3 a1).bind fun r1 => (retV (T := T) 3 a2).bind fun r2 => some (r0, r1, r2)
  | _, _ => none
def impl_AtPort_enc (y : List SStow × Int × Int) : Res T := ⟨[vR T 34 y.1, vR T 3 y.2.1, vR T 3 y.2.2], []⟩
theorem impl_AtPort_de (res : Res T) (y : List SStow × Int × Int) (h : impl_AtPort_dec res = some y) : res = impl_AtPort_enc y := by
  obtain ⟨rets, outs⟩ := res
  unfold impl_AtPort_dec at h
  dsimp only at h
  split at h
  · obtain ⟨r0, h0, h⟩ := Option.bind_eq_some_iff.1 h
    obtain ⟨r1, h1, h⟩ := Option.bind_eq_some_iff.1 h
    obtain ⟨r2, h2, h⟩ := Option.bind_eq_some_iff.1 h
    cases h
    rw [retV_eq ok h0, retV_eq ok h1, retV_eq ok h2]
    rfl
  · cases h
def laws_FnVoyage_dec (res : Res T) : Option Bool := match res.rets, res.outs with
  | [a0], [] => (retV (T := T) 4 a0).bind fun r0 => some (r0)
  | _, _ => none
def laws_FnVoyage_enc (y : Bool) : Res T := ⟨[vR T 4 y], []⟩
theorem laws_FnVoyage_de (res : Res T) (y : Bool) (h : laws_FnVoyage_dec res = some y) : res = laws_FnVoyage_enc y := by
  obtain ⟨rets, outs⟩ := res
  unfold laws_FnVoyage_dec at h
  dsimp only at h
  split at h
  · obtain ⟨r0, h0, h⟩ := Option.bind_eq_some_iff.1 h
    cases h
    rw [retV_eq ok h0]
    rfl
  · cases h
def laws_big_D (n : Nat) (r0 : List (A T)) : Option Bool := ocons r0 fun a0 r1 => onil r1 (obind (argV (T := T) 22 a0) fun code0 => laws_big n code0)
def laws_big_ent (n : Nat) : Ent T := ⟨12, 0, [], Bool, laws_big_D n, laws_big_enc⟩
def spec_l1New_D (n : Nat) (r0 : List (A T)) : Option Sl1Cur := ocons r0 fun a0 r1 => onil r1 (obind (argV (T := T) 22 a0) fun code0 => spec_l1New n code0)
def spec_l1New_ent (n : Nat) : Ent T := ⟨65, 1, [], Sl1Cur, spec_l1New_D n, spec_l1New_enc⟩
def spec_l1Byte_D (n : Nat) (r0 : List (A T)) : Option (Int × Sl1Cur) := ocons r0 fun a0 r1 => onil r1 (obind (argP (T := T) 160 a0) fun c0 => spec_l1Byte n c0)
def spec_l1Byte_ent (n : Nat) : Ent T := ⟨143, 2, [], Int × Sl1Cur, spec_l1Byte_D n, spec_l1Byte_enc⟩
def spec_l1Below_D (n : Nat) (r0 : List (A T)) : Option (Int × Sl1Cur) := ocons r0 fun a0 r1 => ocons r1 fun a1 r2 => onil r2 (obind (argP (T := T) 160 a0) fun c0 => obind (argV (T := T) 3 a1) fun n1 => spec_l1Below n c0 n1)
def spec_l1Below_ent (n : Nat) : Ent T := ⟨76, 3, [], Int × Sl1Cur, spec_l1Below_D n, spec_l1Below_enc⟩
def spec_l1PickInt_D (n : Nat) (r0 : List (A T)) : Option (Int × Sl1Cur) := ocons r0 fun a0 r1 => ocons r1 fun a1 r2 => onil r2 (obind (argP (T := T) 160 a0) fun c0 => obind (argV (T := T) 41 a1) fun list1 => spec_l1PickInt n c0 list1)
def spec_l1PickInt_ent (n : Nat) : Ent T := ⟨67, 4, [], Int × Sl1Cur, spec_l1PickInt_D n, spec_l1PickInt_enc⟩
def spec_l12DrawBays_D (n : Nat) (r0 : List (A T)) : Option (List SHatch × Sl1Cur) := ocons r0 fun a0 r1 => ocons r1 fun a1 r2 => onil r2 (obind (argP (T := T) 160 a0) fun c0 => obind (argV (T := T) 4 a1) fun small1 => spec_l12DrawBays n c0 small1)
def spec_l12DrawBays_ent (n : Nat) : Ent T := ⟨74, 5, [], List SHatch × Sl1Cur, spec_l12DrawBays_D n, spec_l12DrawBays_enc⟩
def spec_l12At_D (n : Nat) (r0 : List (A T)) : Option Int := ocons r0 fun a0 r1 => ocons r1 fun a1 r2 => onil r2 (obind (argV (T := T) 34 a0) fun list0 => obind (argV (T := T) 45 a1) fun s1 => spec_l12At n list0 s1)
def spec_l12At_ent (n : Nat) : Ent T := ⟨77, 6, [], Int, spec_l12At_D n, spec_l12At_enc⟩
def spec_l12Stack_D (n : Nat) (r0 : List (A T)) : Option (List SBox) := ocons r0 fun a0 r1 => ocons r1 fun a1 r2 => ocons r2 fun a2 r3 => onil r3 (obind (argV (T := T) 34 a0) fun list0 => obind (argV (T := T) 3 a1) fun bay1 => obind (argV (T := T) 3 a2) fun row2 => spec_l12Stack n list0 bay1 row2)
def spec_l12Stack_ent (n : Nat) : Ent T := ⟨142, 7, [], List SBox, spec_l12Stack_D n, spec_l12Stack_enc⟩
def spec_l1In_D (n : Nat) (r0 : List (A T)) : Option Bool := ocons r0 fun a0 r1 => ocons r1 fun a1 r2 => ocons r2 fun a2 r3 => onil r3 (obind (argV (T := T) 3 a0) fun x0 => obind (argV (T := T) 3 a1) fun a1 => obind (argV (T := T) 3 a2) fun b2 => spec_l1In n x0 a1 b2)
def spec_l1In_ent (n : Nat) : Ent T := ⟨71, 8, [], Bool, spec_l1In_D n, spec_l1In_enc⟩
def spec_l11Letter_D (n : Nat) (r0 : List (A T)) : Option Int := ocons r0 fun a0 r1 => onil r1 (obind (argV (T := T) 3 a0) fun k0 => spec_l11Letter n k0)
def spec_l11Letter_ent (n : Nat) : Ent T := ⟨181, 9, [], Int, spec_l11Letter_D n, spec_l11Letter_enc⟩
def spec_CheckDigit_D (n : Nat) (r0 : List (A T)) : Option Int := ocons r0 fun a0 r1 => onil r1 (obind (argV (T := T) 9 a0) fun name0 => spec_CheckDigit n name0)
def spec_CheckDigit_ent (n : Nat) : Ent T := ⟨170, 10, [], Int, spec_CheckDigit_D n, spec_CheckDigit_enc⟩
def spec_l11DrawName_D (n : Nat) (r0 : List (A T)) : Option (ByteArray × Sl1Cur) := ocons r0 fun a0 r1 => onil r1 (obind (argP (T := T) 160 a0) fun c0 => spec_l11DrawName n c0)
def spec_l11DrawName_ent (n : Nat) : Ent T := ⟨156, 11, [], ByteArray × Sl1Cur, spec_l11DrawName_D n, spec_l11DrawName_enc⟩
def spec_l1Once_D (n : Nat) (r0 : List (A T)) : Option (Bool × Sl1Cur) := ocons r0 fun a0 r1 => ocons r1 fun a1 r2 => onil r2 (obind (argP (T := T) 160 a0) fun c0 => obind (argV (T := T) 3 a1) fun n1 => spec_l1Once n c0 n1)
def spec_l1Once_ent (n : Nat) : Ent T := ⟨78, 12, [], Bool × Sl1Cur, spec_l1Once_D n, spec_l1Once_enc⟩
def spec_l11Draw_D (n : Nat) (r0 : List (A T)) : Option (SBox × Sl1Cur) := ocons r0 fun a0 r1 => onil r1 (obind (argP (T := T) 160 a0) fun c0 => spec_l11Draw n c0)
def spec_l11Draw_ent (n : Nat) : Ent T := ⟨100, 13, [], SBox × Sl1Cur, spec_l11Draw_D n, spec_l11Draw_enc⟩
def spec_HatchesOk_D (n : Nat) (r0 : List (A T)) : Option Bool := ocons r0 fun a0 r1 => onil r1 (obind (argV (T := T) 33 a0) fun bays0 => spec_HatchesOk n bays0)
def spec_HatchesOk_ent (n : Nat) : Ent T := ⟨96, 14, [], Bool, spec_HatchesOk_D n, spec_HatchesOk_enc⟩
def spec_BoxName_D (n : Nat) (r0 : List (A T)) : Option Bool := ocons r0 fun a0 r1 => onil r1 (obind (argV (T := T) 9 a0) fun text0 => spec_BoxName n text0)
def spec_BoxName_ent (n : Nat) : Ent T := ⟨140, 15, [], Bool, spec_BoxName_D n, spec_BoxName_enc⟩
def spec_BoxOk_D (n : Nat) (r0 : List (A T)) : Option Bool := ocons r0 fun a0 r1 => onil r1 (obind (argV (T := T) 32 a0) fun b0 => spec_BoxOk n b0)
def spec_BoxOk_ent (n : Nat) : Ent T := ⟨70, 16, [], Bool, spec_BoxOk_D n, spec_BoxOk_enc⟩
def spec_StackOk_D (n : Nat) (r0 : List (A T)) : Option Bool := ocons r0 fun a0 r1 => ocons r1 fun a1 r2 => onil r2 (obind (argV (T := T) 24 a0) fun boxes0 => obind (argV (T := T) 3 a1) fun most1 => spec_StackOk n boxes0 most1)
def spec_StackOk_ent (n : Nat) : Ent T := ⟨15, 17, [], Bool, spec_StackOk_D n, spec_StackOk_enc⟩
def spec_l12Cold_D (n : Nat) (r0 : List (A T)) : Option Int := ocons r0 fun a0 r1 => ocons r1 fun a1 r2 => onil r2 (obind (argV (T := T) 34 a0) fun list0 => obind (argV (T := T) 3 a1) fun bay1 => spec_l12Cold n list0 bay1)
def spec_l12Cold_ent (n : Nat) : Ent T := ⟨154, 18, [], Int, spec_l12Cold_D n, spec_l12Cold_enc⟩
def spec_l11Spot_D (n : Nat) (r0 : List (A T)) : Option Bool := ocons r0 fun a0 r1 => onil r1 (obind (argV (T := T) 45 a0) fun s0 => spec_l11Spot n s0)
def spec_l11Spot_ent (n : Nat) : Ent T := ⟨175, 19, [], Bool, spec_l11Spot_D n, spec_l11Spot_enc⟩
def spec_l3Size_D (n : Nat) (r0 : List (A T)) : Option Int := ocons r0 fun a0 r1 => onil r1 (obind (argV (T := T) 3 a0) fun x0 => spec_l3Size n x0)
def spec_l3Size_ent (n : Nat) : Ent T := ⟨176, 20, [], Int, spec_l3Size_D n, spec_l3Size_enc⟩
def spec_l1Least_D (n : Nat) (r0 : List (A T)) : Option Int := ocons r0 fun a0 r1 => ocons r1 fun a1 r2 => onil r2 (obind (argV (T := T) 3 a0) fun a0 => obind (argV (T := T) 3 a1) fun b1 => spec_l1Least n a0 b1)
def spec_l1Least_ent (n : Nat) : Ent T := ⟨192, 21, [], Int, spec_l1Least_D n, spec_l1Least_enc⟩
def spec_Apart_D (n : Nat) (r0 : List (A T)) : Option Int := ocons r0 fun a0 r1 => ocons r1 fun a1 r2 => onil r2 (obind (argV (T := T) 3 a0) fun a0 => obind (argV (T := T) 3 a1) fun b1 => spec_Apart n a0 b1)
def spec_Apart_ent (n : Nat) : Ent T := ⟨177, 22, [], Int, spec_Apart_D n, spec_Apart_enc⟩
def spec_KeepsApart_D (n : Nat) (r0 : List (A T)) : Option Bool := ocons r0 fun a0 r1 => ocons r1 fun a1 r2 => ocons r2 fun a2 r3 => ocons r3 fun a3 r4 => onil r4 (obind (argV (T := T) 32 a0) fun a0 => obind (argV (T := T) 45 a1) fun sa1 => obind (argV (T := T) 32 a2) fun b2 => obind (argV (T := T) 45 a3) fun sb3 => spec_KeepsApart n a0 sa1 b2 sb3)
def spec_KeepsApart_ent (n : Nat) : Ent T := ⟨155, 23, [], Bool, spec_KeepsApart_D n, spec_KeepsApart_enc⟩
def spec_l12Fails_D (n : Nat) (r0 : List (A T)) : Option Bool := ocons r0 fun a0 r1 => ocons r1 fun a1 r2 => ocons r2 fun a2 r3 => ocons r3 fun a3 r4 => onil r4 (obind (argV (T := T) 33 a0) fun bays0 => obind (argV (T := T) 34 a1) fun list1 => obind (argV (T := T) 3 a2) fun i2 => obind (argV (T := T) 3 a3) fun code3 => spec_l12Fails n bays0 list1 i2 code3)
def spec_l12Fails_ent (n : Nat) : Ent T := ⟨97, 24, [], Bool, spec_l12Fails_D n, spec_l12Fails_enc⟩
def spec_StowCode_D (n : Nat) (r0 : List (A T)) : Option (Int × Int) := ocons r0 fun a0 r1 => ocons r1 fun a1 r2 => onil r2 (obind (argV (T := T) 33 a0) fun bays0 => obind (argV (T := T) 34 a1) fun list1 => spec_StowCode n bays0 list1)
def spec_StowCode_ent (n : Nat) : Ent T := ⟨22, 25, [], Int × Int, spec_StowCode_D n, spec_StowCode_enc⟩
def spec_l12DrawStows_D (n : Nat) (r0 : List (A T)) : Option (List SStow × Sl1Cur) := ocons r0 fun a0 r1 => ocons r1 fun a1 r2 => ocons r2 fun a2 r3 => onil r3 (obind (argP (T := T) 160 a0) fun c0 => obind (argV (T := T) 33 a1) fun bays1 => obind (argV (T := T) 3 a2) fun many2 => spec_l12DrawStows n c0 bays1 many2)
def spec_l12DrawStows_ent (n : Nat) : Ent T := ⟨75, 26, [], List SStow × Sl1Cur, spec_l12DrawStows_D n, spec_l12DrawStows_enc⟩
def spec_l11DrawSpot_D (n : Nat) (r0 : List (A T)) : Option (SSpot × Sl1Cur) := ocons r0 fun a0 r1 => onil r1 (obind (argP (T := T) 160 a0) fun c0 => spec_l11DrawSpot n c0)
def spec_l11DrawSpot_ent (n : Nat) : Ent T := ⟨144, 27, [], SSpot × Sl1Cur, spec_l11DrawSpot_D n, spec_l11DrawSpot_enc⟩
def spec_l1Pick_D (n : Nat) (r0 : List (A T)) : Option (ByteArray × Sl1Cur) := ocons r0 fun a0 r1 => ocons r1 fun a1 r2 => onil r2 (obind (argP (T := T) 160 a0) fun c0 => obind (argV (T := T) 186 a1) fun list1 => spec_l1Pick n c0 list1)
def spec_l1Pick_ent (n : Nat) : Ent T := ⟨178, 28, [], ByteArray × Sl1Cur, spec_l1Pick_D n, spec_l1Pick_enc⟩
def spec_l11DrawText_D (n : Nat) (r0 : List (A T)) : Option (ByteArray × Sl1Cur) := ocons r0 fun a0 r1 => onil r1 (obind (argP (T := T) 160 a0) fun c0 => spec_l11DrawText n c0)
def spec_l11DrawText_ent (n : Nat) : Ent T := ⟨157, 29, [], ByteArray × Sl1Cur, spec_l11DrawText_D n, spec_l11DrawText_enc⟩
def spec_l11DrawAny_D (n : Nat) (r0 : List (A T)) : Option (SBox × Sl1Cur) := ocons r0 fun a0 r1 => onil r1 (obind (argP (T := T) 160 a0) fun c0 => spec_l11DrawAny n c0)
def spec_l11DrawAny_ent (n : Nat) : Ent T := ⟨101, 30, [], SBox × Sl1Cur, spec_l11DrawAny_D n, spec_l11DrawAny_enc⟩
def spec_l12Muddle_D (n : Nat) (r0 : List (A T)) : Option (List SStow × Sl1Cur) := ocons r0 fun a0 r1 => ocons r1 fun a1 r2 => onil r2 (obind (argP (T := T) 160 a0) fun c0 => obind (argV (T := T) 34 a1) fun list1 => spec_l12Muddle n c0 list1)
def spec_l12Muddle_ent (n : Nat) : Ent T := ⟨79, 31, [], List SStow × Sl1Cur, spec_l12Muddle_D n, spec_l12Muddle_enc⟩
def spec_DrawAtPort_D (n : Nat) (r0 : List (A T)) : Option (List SHatch × List SStow × Int × List SStow) := ocons r0 fun a0 r1 => onil r1 (obind (argV (T := T) 22 a0) fun code0 => spec_DrawAtPort n code0)
def spec_DrawAtPort_ent (n : Nat) : Ent T := ⟨19, 32, [], List SHatch × List SStow × Int × List SStow, spec_DrawAtPort_D n, spec_DrawAtPort_enc⟩
def impl_own_impl_Stow_D (n : Nat) (r0 : List (A T)) : Option (List SStow) := ocons r0 fun a0 r1 => onil r1 (obind (argV (T := T) 34 a0) fun l0 => impl_own_impl_Stow n l0)
def impl_own_impl_Stow_ent (n : Nat) : Ent T := ⟨80, 33, [], List SStow, impl_own_impl_Stow_D n, impl_own_impl_Stow_enc⟩
def impl_in_D (n : Nat) (r0 : List (A T)) : Option Bool := ocons r0 fun a0 r1 => ocons r1 fun a1 r2 => ocons r2 fun a2 r3 => onil r3 (obind (argV (T := T) 3 a0) fun n0 => obind (argV (T := T) 3 a1) fun least1 => obind (argV (T := T) 3 a2) fun most2 => impl_in n n0 least1 most2)
def impl_in_ent (n : Nat) : Ent T := ⟨68, 34, [], Bool, impl_in_D n, impl_in_enc⟩
def impl_HatchesOk_1_D (n : Nat) (r0 : List (A T)) : Option Bool := ocons r0 fun a0 r1 => onil r1 (obind (argV (T := T) 121 a0) fun h0 => impl_HatchesOk_1 n h0)
def impl_HatchesOk_1_ent (n : Nat) : Ent T := ⟨146, 35, [], Bool, impl_HatchesOk_1_D n, impl_HatchesOk_1_enc⟩
def slices_IndexFunc_impl_Hatch_impl_Hatch__impl_HatchesOk_1_D (n : Nat) (ar : List (A T)) : Option Int := match ar with
  | [a0, .fn _ []] => obind (argV (T := T) 33 a0) fun s0 => slices_IndexFunc_impl_Hatch_impl_Hatch__impl_HatchesOk_1 n s0
  | _ => none
def slices_IndexFunc_impl_Hatch_impl_Hatch__impl_HatchesOk_1_ent (n : Nat) : Ent T := ⟨171, 36, [146], Int, slices_IndexFunc_impl_Hatch_impl_Hatch__impl_HatchesOk_1_D n, slices_IndexFunc_impl_Hatch_impl_Hatch__impl_HatchesOk_1_enc⟩
def slices_ContainsFunc_impl_Hatch_impl_Hatch__impl_HatchesOk_1_D (n : Nat) (ar : List (A T)) : Option Bool := match ar with
  | [a0, .fn _ []] => obind (argV (T := T) 33 a0) fun s0 => slices_ContainsFunc_impl_Hatch_impl_Hatch__impl_HatchesOk_1 n s0
  | _ => none
def slices_ContainsFunc_impl_Hatch_impl_Hatch__impl_HatchesOk_1_ent (n : Nat) : Ent T := ⟨145, 37, [146], Bool, slices_ContainsFunc_impl_Hatch_impl_Hatch__impl_HatchesOk_1_D n, slices_ContainsFunc_impl_Hatch_impl_Hatch__impl_HatchesOk_1_enc⟩
def impl_HatchesOk_D (n : Nat) (r0 : List (A T)) : Option Bool := ocons r0 fun a0 r1 => onil r1 (obind (argV (T := T) 33 a0) fun bays0 => impl_HatchesOk n bays0)
def impl_HatchesOk_ent (n : Nat) : Ent T := ⟨82, 38, [], Bool, impl_HatchesOk_D n, impl_HatchesOk_enc⟩
def impl_valueOf_D (n : Nat) (r0 : List (A T)) : Option Int := ocons r0 fun a0 r1 => onil r1 (obind (argV (T := T) 5 a0) fun c0 => impl_valueOf n c0)
def impl_valueOf_ent (n : Nat) : Ent T := ⟨180, 39, [], Int, impl_valueOf_D n, impl_valueOf_enc⟩
def impl_CheckDigit_D (n : Nat) (r0 : List (A T)) : Option Int := ocons r0 fun a0 r1 => onil r1 (obind (argV (T := T) 9 a0) fun name0 => impl_CheckDigit n name0)
def impl_CheckDigit_ent (n : Nat) : Ent T := ⟨169, 40, [], Int, impl_CheckDigit_D n, impl_CheckDigit_enc⟩
def impl_BoxName_D (n : Nat) (r0 : List (A T)) : Option Bool := ocons r0 fun a0 r1 => onil r1 (obind (argV (T := T) 9 a0) fun text0 => impl_BoxName n text0)
def impl_BoxName_ent (n : Nat) : Ent T := ⟨139, 41, [], Bool, impl_BoxName_D n, impl_BoxName_enc⟩
def impl_portOk_D (n : Nat) (r0 : List (A T)) : Option Bool := ocons r0 fun a0 r1 => onil r1 (obind (argV (T := T) 3 a0) fun n0 => impl_portOk n n0)
def impl_portOk_ent (n : Nat) : Ent T := ⟨81, 42, [], Bool, impl_portOk_D n, impl_portOk_enc⟩
def impl_BoxOk_D (n : Nat) (r0 : List (A T)) : Option Bool := ocons r0 fun a0 r1 => onil r1 (obind (argV (T := T) 32 a0) fun b0 => impl_BoxOk n b0)
def impl_BoxOk_ent (n : Nat) : Ent T := ⟨69, 43, [], Bool, impl_BoxOk_D n, impl_BoxOk_enc⟩
def impl_StowCode_1_D (n : Nat) (r0 : List (A T)) : Option Bool := ocons r0 fun a0 r1 => ocons r1 fun a1 r2 => onil r2 (obind (argV (T := T) 3 a0) fun _0 => obind (argV (T := T) 47 a1) fun s1 => impl_StowCode_1 n _0 s1)
def impl_StowCode_1_ent (n : Nat) : Ent T := ⟨83, 44, [], Bool, impl_StowCode_1_D n, impl_StowCode_1_enc⟩
def impl_StowCode_2_1_D (n : Nat) (r0 : List (A T)) : Option Bool := ocons r0 fun a0 r1 => ocons r1 fun a1 r2 => onil r2 (obind (argV (T := T) 47 a0) fun x0 => obind (argP (T := T) 47 a1) fun a1 => impl_StowCode_2_1 n x0 a1)
def impl_StowCode_2_1_ent (n : Nat) : Ent T := ⟨86, 45, [], Bool, impl_StowCode_2_1_D n, impl_StowCode_2_1_enc⟩
def slices_IndexFunc_impl_Stow_impl_Stow__impl_StowCode_2_1_D (n : Nat) (ar : List (A T)) : Option Int := match ar with
  | [a0, .fn _ [k1_0]] => obind (argV (T := T) 34 a0) fun s0 => obind (argP (T := T) 47 k1_0) fun f1c0 => slices_IndexFunc_impl_Stow_impl_Stow__impl_StowCode_2_1 n s0 f1c0
  | _ => none
def slices_IndexFunc_impl_Stow_impl_Stow__impl_StowCode_2_1_ent (n : Nat) : Ent T := ⟨147, 46, [86], Int, slices_IndexFunc_impl_Stow_impl_Stow__impl_StowCode_2_1_D n, slices_IndexFunc_impl_Stow_impl_Stow__impl_StowCode_2_1_enc⟩
def slices_ContainsFunc_impl_Stow_impl_Stow__impl_StowCode_2_1_D (n : Nat) (ar : List (A T)) : Option Bool := match ar with
  | [a0, .fn _ [k1_0]] => obind (argV (T := T) 34 a0) fun s0 => obind (argP (T := T) 47 k1_0) fun f1c0 => slices_ContainsFunc_impl_Stow_impl_Stow__impl_StowCode_2_1 n s0 f1c0
  | _ => none
def slices_ContainsFunc_impl_Stow_impl_Stow__impl_StowCode_2_1_ent (n : Nat) : Ent T := ⟨85, 47, [86], Bool, slices_ContainsFunc_impl_Stow_impl_Stow__impl_StowCode_2_1_D n, slices_ContainsFunc_impl_Stow_impl_Stow__impl_StowCode_2_1_enc⟩
def impl_StowCode_2_D (n : Nat) (r0 : List (A T)) : Option Bool := ocons r0 fun a0 r1 => ocons r1 fun a1 r2 => ocons r2 fun a2 r3 => onil r3 (obind (argV (T := T) 3 a0) fun i0 => obind (argV (T := T) 47 a1) fun s1 => obind (argP (T := T) 34 a2) fun a2 => impl_StowCode_2 n i0 s1 a2)
def impl_StowCode_2_ent (n : Nat) : Ent T := ⟨84, 48, [], Bool, impl_StowCode_2_D n, impl_StowCode_2_enc⟩
def impl_StowCode_3_D (n : Nat) (r0 : List (A T)) : Option Bool := ocons r0 fun a0 r1 => ocons r1 fun a1 r2 => ocons r2 fun a2 r3 => onil r3 (obind (argV (T := T) 3 a0) fun _0 => obind (argV (T := T) 47 a1) fun s1 => obind (argP (T := T) 33 a2) fun a2 => impl_StowCode_3 n _0 s1 a2)
def impl_StowCode_3_ent (n : Nat) : Ent T := ⟨87, 49, [], Bool, impl_StowCode_3_D n, impl_StowCode_3_enc⟩
def impl_StowCode_4_1_D (n : Nat) (r0 : List (A T)) : Option Bool := ocons r0 fun a0 r1 => ocons r1 fun a1 r2 => onil r2 (obind (argV (T := T) 47 a0) fun x0 => obind (argP (T := T) 45 a1) fun a1 => impl_StowCode_4_1 n x0 a1)
def impl_StowCode_4_1_ent (n : Nat) : Ent T := ⟨89, 50, [], Bool, impl_StowCode_4_1_D n, impl_StowCode_4_1_enc⟩
def slices_IndexFunc_impl_Stow_impl_Stow__impl_StowCode_4_1_D (n : Nat) (ar : List (A T)) : Option Int := match ar with
  | [a0, .fn _ [k1_0]] => obind (argV (T := T) 34 a0) fun s0 => obind (argP (T := T) 45 k1_0) fun f1c0 => slices_IndexFunc_impl_Stow_impl_Stow__impl_StowCode_4_1 n s0 f1c0
  | _ => none
def slices_IndexFunc_impl_Stow_impl_Stow__impl_StowCode_4_1_ent (n : Nat) : Ent T := ⟨147, 51, [89], Int, slices_IndexFunc_impl_Stow_impl_Stow__impl_StowCode_4_1_D n, slices_IndexFunc_impl_Stow_impl_Stow__impl_StowCode_4_1_enc⟩
def slices_ContainsFunc_impl_Stow_impl_Stow__impl_StowCode_4_1_D (n : Nat) (ar : List (A T)) : Option Bool := match ar with
  | [a0, .fn _ [k1_0]] => obind (argV (T := T) 34 a0) fun s0 => obind (argP (T := T) 45 k1_0) fun f1c0 => slices_ContainsFunc_impl_Stow_impl_Stow__impl_StowCode_4_1 n s0 f1c0
  | _ => none
def slices_ContainsFunc_impl_Stow_impl_Stow__impl_StowCode_4_1_ent (n : Nat) : Ent T := ⟨85, 52, [89], Bool, slices_ContainsFunc_impl_Stow_impl_Stow__impl_StowCode_4_1_D n, slices_ContainsFunc_impl_Stow_impl_Stow__impl_StowCode_4_1_enc⟩
def impl_StowCode_4_D (n : Nat) (r0 : List (A T)) : Option Bool := ocons r0 fun a0 r1 => ocons r1 fun a1 r2 => ocons r2 fun a2 r3 => onil r3 (obind (argV (T := T) 3 a0) fun _0 => obind (argV (T := T) 47 a1) fun s1 => obind (argP (T := T) 34 a2) fun a2 => impl_StowCode_4 n _0 s1 a2)
def impl_StowCode_4_ent (n : Nat) : Ent T := ⟨88, 53, [], Bool, impl_StowCode_4_D n, impl_StowCode_4_enc⟩
def cmp_isNaN_int_D (n : Nat) (r0 : List (A T)) : Option Bool := ocons r0 fun a0 r1 => onil r1 (obind (argV (T := T) 3 a0) fun x0 => cmp_isNaN_int n x0)
def cmp_isNaN_int_ent (n : Nat) : Ent T := ⟨174, 54, [], Bool, cmp_isNaN_int_D n, cmp_isNaN_int_enc⟩
def cmp_Compare_int_D (n : Nat) (r0 : List (A T)) : Option Int := ocons r0 fun a0 r1 => ocons r1 fun a1 r2 => onil r2 (obind (argV (T := T) 3 a0) fun x0 => obind (argV (T := T) 3 a1) fun y1 => cmp_Compare_int n x0 y1)
def cmp_Compare_int_ent (n : Nat) : Ent T := ⟨150, 55, [], Int, cmp_Compare_int_D n, cmp_Compare_int_enc⟩
def impl_stackOf_1_D (n : Nat) (r0 : List (A T)) : Option Int := ocons r0 fun a0 r1 => ocons r1 fun a1 r2 => onil r2 (obind (argV (T := T) 47 a0) fun a0 => obind (argV (T := T) 47 a1) fun b1 => impl_stackOf_1 n a0 b1)
def impl_stackOf_1_ent (n : Nat) : Ent T := ⟨149, 56, [], Int, impl_stackOf_1_D n, impl_stackOf_1_enc⟩
def slices_SortFunc_impl_Stow_impl_Stow__impl_stackOf_1_D (n : Nat) (ar : List (A T)) : Option (List SStow) := match ar with
  | [a0, .fn _ []] => obind (argV (T := T) 34 a0) fun l0 => slices_SortFunc_impl_Stow_impl_Stow__impl_stackOf_1 n l0
  | _ => none
def slices_SortFunc_impl_Stow_impl_Stow__impl_stackOf_1_ent (n : Nat) : Ent T := ⟨148, 57, [149], List SStow, slices_SortFunc_impl_Stow_impl_Stow__impl_stackOf_1_D n, slices_SortFunc_impl_Stow_impl_Stow__impl_stackOf_1_enc⟩
def impl_stackOf_D (n : Nat) (r0 : List (A T)) : Option (List SBox) := ocons r0 fun a0 r1 => ocons r1 fun a1 r2 => ocons r2 fun a2 r3 => onil r3 (obind (argV (T := T) 34 a0) fun list0 => obind (argV (T := T) 3 a1) fun bay1 => obind (argV (T := T) 3 a2) fun row2 => impl_stackOf n list0 bay1 row2)
def impl_stackOf_ent (n : Nat) : Ent T := ⟨91, 58, [], List SBox, impl_stackOf_D n, impl_stackOf_enc⟩
def impl_StackOk_D (n : Nat) (r0 : List (A T)) : Option Bool := ocons r0 fun a0 r1 => ocons r1 fun a1 r2 => onil r2 (obind (argV (T := T) 24 a0) fun boxes0 => obind (argV (T := T) 3 a1) fun most1 => impl_StackOk n boxes0 most1)
def impl_StackOk_ent (n : Nat) : Ent T := ⟨14, 59, [], Bool, impl_StackOk_D n, impl_StackOk_enc⟩
def impl_StowCode_5_D (n : Nat) (r0 : List (A T)) : Option Bool := ocons r0 fun a0 r1 => ocons r1 fun a1 r2 => ocons r2 fun a2 r3 => ocons r3 fun a3 r4 => onil r4 (obind (argV (T := T) 3 a0) fun _0 => obind (argV (T := T) 47 a1) fun s1 => obind (argP (T := T) 34 a2) fun a2 => obind (argP (T := T) 33 a3) fun a3 => impl_StowCode_5 n _0 s1 a2 a3)
def impl_StowCode_5_ent (n : Nat) : Ent T := ⟨90, 60, [], Bool, impl_StowCode_5_D n, impl_StowCode_5_enc⟩
def impl_StowCode_6_D (n : Nat) (r0 : List (A T)) : Option Bool := ocons r0 fun a0 r1 => ocons r1 fun a1 r2 => ocons r2 fun a2 r3 => ocons r3 fun a3 r4 => onil r4 (obind (argV (T := T) 3 a0) fun _0 => obind (argV (T := T) 47 a1) fun s1 => obind (argP (T := T) 34 a2) fun a2 => obind (argP (T := T) 33 a3) fun a3 => impl_StowCode_6 n _0 s1 a2 a3)
def impl_StowCode_6_ent (n : Nat) : Ent T := ⟨92, 61, [], Bool, impl_StowCode_6_D n, impl_StowCode_6_enc⟩
def impl_spotOk_D (n : Nat) (r0 : List (A T)) : Option Bool := ocons r0 fun a0 r1 => onil r1 (obind (argV (T := T) 45 a0) fun s0 => impl_spotOk n s0)
def impl_spotOk_ent (n : Nat) : Ent T := ⟨151, 62, [], Bool, impl_spotOk_D n, impl_spotOk_enc⟩
def impl_size_D (n : Nat) (r0 : List (A T)) : Option Int := ocons r0 fun a0 r1 => onil r1 (obind (argV (T := T) 3 a0) fun n0 => impl_size n n0)
def impl_size_ent (n : Nat) : Ent T := ⟨152, 63, [], Int, impl_size_D n, impl_size_enc⟩
def impl_Apart_D (n : Nat) (r0 : List (A T)) : Option Int := ocons r0 fun a0 r1 => ocons r1 fun a1 r2 => onil r2 (obind (argV (T := T) 3 a0) fun a0 => obind (argV (T := T) 3 a1) fun b1 => impl_Apart n a0 b1)
def impl_Apart_ent (n : Nat) : Ent T := ⟨153, 64, [], Int, impl_Apart_D n, impl_Apart_enc⟩
def impl_KeepsApart_D (n : Nat) (r0 : List (A T)) : Option Bool := ocons r0 fun a0 r1 => ocons r1 fun a1 r2 => ocons r2 fun a2 r3 => ocons r3 fun a3 r4 => onil r4 (obind (argV (T := T) 32 a0) fun a0 => obind (argV (T := T) 45 a1) fun sa1 => obind (argV (T := T) 32 a2) fun b2 => obind (argV (T := T) 45 a3) fun sb3 => impl_KeepsApart n a0 sa1 b2 sb3)
def impl_KeepsApart_ent (n : Nat) : Ent T := ⟨95, 65, [], Bool, impl_KeepsApart_D n, impl_KeepsApart_enc⟩
def impl_StowCode_7_1_D (n : Nat) (r0 : List (A T)) : Option Bool := ocons r0 fun a0 r1 => ocons r1 fun a1 r2 => onil r2 (obind (argV (T := T) 47 a0) fun x0 => obind (argP (T := T) 47 a1) fun a1 => impl_StowCode_7_1 n x0 a1)
def impl_StowCode_7_1_ent (n : Nat) : Ent T := ⟨94, 66, [], Bool, impl_StowCode_7_1_D n, impl_StowCode_7_1_enc⟩
def slices_IndexFunc_impl_Stow_impl_Stow__impl_StowCode_7_1_D (n : Nat) (ar : List (A T)) : Option Int := match ar with
  | [a0, .fn _ [k1_0]] => obind (argV (T := T) 34 a0) fun s0 => obind (argP (T := T) 47 k1_0) fun f1c0 => slices_IndexFunc_impl_Stow_impl_Stow__impl_StowCode_7_1 n s0 f1c0
  | _ => none
def slices_IndexFunc_impl_Stow_impl_Stow__impl_StowCode_7_1_ent (n : Nat) : Ent T := ⟨147, 67, [94], Int, slices_IndexFunc_impl_Stow_impl_Stow__impl_StowCode_7_1_D n, slices_IndexFunc_impl_Stow_impl_Stow__impl_StowCode_7_1_enc⟩
def slices_ContainsFunc_impl_Stow_impl_Stow__impl_StowCode_7_1_D (n : Nat) (ar : List (A T)) : Option Bool := match ar with
  | [a0, .fn _ [k1_0]] => obind (argV (T := T) 34 a0) fun s0 => obind (argP (T := T) 47 k1_0) fun f1c0 => slices_ContainsFunc_impl_Stow_impl_Stow__impl_StowCode_7_1 n s0 f1c0
  | _ => none
def slices_ContainsFunc_impl_Stow_impl_Stow__impl_StowCode_7_1_ent (n : Nat) : Ent T := ⟨85, 68, [94], Bool, slices_ContainsFunc_impl_Stow_impl_Stow__impl_StowCode_7_1_D n, slices_ContainsFunc_impl_Stow_impl_Stow__impl_StowCode_7_1_enc⟩
def impl_StowCode_7_D (n : Nat) (r0 : List (A T)) : Option Bool := ocons r0 fun a0 r1 => ocons r1 fun a1 r2 => ocons r2 fun a2 r3 => onil r3 (obind (argV (T := T) 3 a0) fun i0 => obind (argV (T := T) 47 a1) fun s1 => obind (argP (T := T) 34 a2) fun a2 => impl_StowCode_7 n i0 s1 a2)
def impl_StowCode_7_ent (n : Nat) : Ent T := ⟨93, 69, [], Bool, impl_StowCode_7_D n, impl_StowCode_7_enc⟩
def impl_StowCode_D (n : Nat) (r0 : List (A T)) : Option (Int × Int) := ocons r0 fun a0 r1 => ocons r1 fun a1 r2 => onil r2 (obind (argV (T := T) 33 a0) fun bays0 => obind (argV (T := T) 34 a1) fun list1 => impl_StowCode n bays0 list1)
def impl_StowCode_ent (n : Nat) : Ent T := ⟨21, 70, [], Int × Int, impl_StowCode_D n, impl_StowCode_enc⟩
def impl_over_D (n : Nat) (r0 : List (A T)) : Option Bool := ocons r0 fun a0 r1 => ocons r1 fun a1 r2 => onil r2 (obind (argV (T := T) 45 a0) fun a0 => obind (argV (T := T) 45 a1) fun b1 => impl_over n a0 b1)
def impl_over_ent (n : Nat) : Ent T := ⟨98, 71, [], Bool, impl_over_D n, impl_over_enc⟩
def impl_own_int_D (n : Nat) (r0 : List (A T)) : Option (List Int) := ocons r0 fun a0 r1 => onil r1 (obind (argV (T := T) 41 a0) fun l0 => impl_own_int n l0)
def impl_own_int_ent (n : Nat) : Ent T := ⟨99, 72, [], List Int, impl_own_int_D n, impl_own_int_enc⟩
def impl_Shifts_D (n : Nat) (r0 : List (A T)) : Option (List Int × Bool) := ocons r0 fun a0 r1 => ocons r1 fun a1 r2 => onil r2 (obind (argV (T := T) 34 a0) fun list0 => obind (argV (T := T) 3 a1) fun port1 => impl_Shifts n list0 port1)
def impl_Shifts_ent (n : Nat) : Ent T := ⟨23, 73, [], List Int × Bool, impl_Shifts_D n, impl_Shifts_enc⟩
def impl_AtPort_D (n : Nat) (r0 : List (A T)) : Option (List SStow × Int × Int) := ocons r0 fun a0 r1 => ocons r1 fun a1 r2 => ocons r2 fun a2 r3 => ocons r3 fun a3 r4 => onil r4 (obind (argV (T := T) 33 a0) fun bays0 => obind (argV (T := T) 34 a1) fun list1 => obind (argV (T := T) 3 a2) fun port2 => obind (argV (T := T) 34 a3) fun plan3 => impl_AtPort n bays0 list1 port2 plan3)
def impl_AtPort_ent (n : Nat) : Ent T := ⟨20, 74, [], List SStow × Int × Int, impl_AtPort_D n, impl_AtPort_enc⟩
def laws_FnVoyage_D (n : Nat) (r0 : List (A T)) : Option Bool := ocons r0 fun a0 r1 => onil r1 (obind (argV (T := T) 22 a0) fun code0 => laws_FnVoyage n code0)
def laws_FnVoyage_ent (n : Nat) : Ent T := ⟨4, 75, [], Bool, laws_FnVoyage_D n, laws_FnVoyage_enc⟩
def ents (n : Nat) : List (Ent T) := [laws_big_ent n, spec_l1New_ent n, spec_l1Byte_ent n, spec_l1Below_ent n, spec_l1PickInt_ent n, spec_l12DrawBays_ent n, spec_l12At_ent n, spec_l12Stack_ent n, spec_l1In_ent n, spec_l11Letter_ent n, spec_CheckDigit_ent n, spec_l11DrawName_ent n, spec_l1Once_ent n, spec_l11Draw_ent n, spec_HatchesOk_ent n, spec_BoxName_ent n, spec_BoxOk_ent n, spec_StackOk_ent n, spec_l12Cold_ent n, spec_l11Spot_ent n, spec_l3Size_ent n, spec_l1Least_ent n, spec_Apart_ent n, spec_KeepsApart_ent n, spec_l12Fails_ent n, spec_StowCode_ent n, spec_l12DrawStows_ent n, spec_l11DrawSpot_ent n, spec_l1Pick_ent n, spec_l11DrawText_ent n, spec_l11DrawAny_ent n, spec_l12Muddle_ent n, spec_DrawAtPort_ent n, impl_own_impl_Stow_ent n, impl_in_ent n, impl_HatchesOk_1_ent n, slices_IndexFunc_impl_Hatch_impl_Hatch__impl_HatchesOk_1_ent n, slices_ContainsFunc_impl_Hatch_impl_Hatch__impl_HatchesOk_1_ent n, impl_HatchesOk_ent n, impl_valueOf_ent n, impl_CheckDigit_ent n, impl_BoxName_ent n, impl_portOk_ent n, impl_BoxOk_ent n, impl_StowCode_1_ent n, impl_StowCode_2_1_ent n, slices_IndexFunc_impl_Stow_impl_Stow__impl_StowCode_2_1_ent n, slices_ContainsFunc_impl_Stow_impl_Stow__impl_StowCode_2_1_ent n, impl_StowCode_2_ent n, impl_StowCode_3_ent n, impl_StowCode_4_1_ent n, slices_IndexFunc_impl_Stow_impl_Stow__impl_StowCode_4_1_ent n, slices_ContainsFunc_impl_Stow_impl_Stow__impl_StowCode_4_1_ent n, impl_StowCode_4_ent n, cmp_isNaN_int_ent n, cmp_Compare_int_ent n, impl_stackOf_1_ent n, slices_SortFunc_impl_Stow_impl_Stow__impl_stackOf_1_ent n, impl_stackOf_ent n, impl_StackOk_ent n, impl_StowCode_5_ent n, impl_StowCode_6_ent n, impl_spotOk_ent n, impl_size_ent n, impl_Apart_ent n, impl_KeepsApart_ent n, impl_StowCode_7_1_ent n, slices_IndexFunc_impl_Stow_impl_Stow__impl_StowCode_7_1_ent n, slices_ContainsFunc_impl_Stow_impl_Stow__impl_StowCode_7_1_ent n, impl_StowCode_7_ent n, impl_StowCode_ent n, impl_over_ent n, impl_own_int_ent n, impl_Shifts_ent n, impl_AtPort_ent n, laws_FnVoyage_ent n]
abbrev Phi (n i : Nat) {R : Type} (f : Nat) (ar : List (A T)) (K : Res T → Option R) : Option R := PhiE (ents n) i f ar K
theorem mixed : Try.prog.follows .mixedOrders = true := by kernel_rfl
noncomputable def laws_big_code : Code := match Try.f12.body with | some c => c | none => .skip
def laws_big_ann : Ann := fun id => none
def laws_big_Ls (n : Nat) : Nat → Option (LSpec T) := fun id => none
theorem laws_big_tie (n : Nat) (code0 : List Int) : evF (T := T) (Phi n 0) (laws_big_Ls n) laws_big_ann n Try.f12 (sg 12) [vA T 22 code0] laws_big_dec = laws_big n code0 := by kernel_rfl
theorem laws_big_lo (n : Nat) : LoopsOk (T := T) (Phi n 0) (laws_big_Ls n) laws_big_ann n laws_big_code := loopsOk_all (cs := []) (by kernel_rfl) trivial
theorem laws_big_ok (n : Nat) : EntOk Try.prog (ents n) (laws_big_ent n) := by
  intro hs ar y hg h
  replace h : laws_big_D n ar = some y := h
  unfold laws_big_D at h
  replace h := ocons_some h
  obtain ⟨a0, r0, rfl, h⟩ := h
  replace h := onil_some h
  obtain ⟨rfl, h⟩ := h
  obtain ⟨code0, qh0, h⟩ := obind_some h
  rw [argV_eq ok qh0]
  exact call_of (phiE_nat _ _) hs ok mixed Try.func12 (c := laws_big_code) (by kernel_rfl) (laws_big_lo n) (by kernel_rfl) (by kernel_rfl) (by kernel_rfl) laws_big_de ((laws_big_tie n code0).trans h)
noncomputable def spec_l1New_code : Code := match Try.f65.body with | some c => c | none => .skip
def spec_l1New_3_sv : List Sv := [.one (.arr 5), .one (.int .i64), .one (.int .i64)]
def spec_l1New_3_so : List So := []
def spec_l1New_3_emb (c : List Int) (x : Int × Int) : EVs T spec_l1New_3_sv × EOs T spec_l1New_3_so := ((c, x.1, x.2, ()), ())
def spec_l1New_3_prj (y : EVs T spec_l1New_3_sv × EOs T spec_l1New_3_so) : List Int × (Int × Int) := ((y.1.1), (y.1.2.1, y.1.2.2.1))
def spec_l1New_3_b (n : Nat) {R : Type} (K : Ex → Sm.St T → Option R) (c : List Int) (x : Int × Int) (J : (Int × Int) → Option R) : Option R :=
  spec_l1New_L3 n (fun (y1 : Int) => K (.exit 0) (stOf (T := T) [0, 3] [] [.one (.arr 5), .one (.int .i64)] [] (c, y1, ()) ())) (fun z0 z1 => J (z0, z1)) c x.1 x.2
def spec_l1New_3_sp (n : Nat) : LSpec T := mkSpec T ⟨[], [0, 3, 4], []⟩ spec_l1New_3_sv spec_l1New_3_so (List Int) (Int × Int) spec_l1New_3_emb spec_l1New_3_prj (spec_l1New_3_b n)
noncomputable def spec_l1New_3_c : Code := ((loopCodes spec_l1New_code)[0]?).getD .skip
def spec_l1New_ann : Ann := fun id => bif Nat.beq id 3000003 then some ⟨[], [0, 3], []⟩ else none
def spec_l1New_Ls (n : Nat) : Nat → Option (LSpec T) := fun id => bif Nat.beq id 3 then some (spec_l1New_3_sp n) else none
theorem spec_l1New_3_le (n : Nat) : LoopEq (T := T) (Phi n 1) (spec_l1New_Ls n) spec_l1New_ann n spec_l1New_3_c (spec_l1New_3_sp n) := ⟨mkSpec_dec (fun y => rfl), fun c x => by kernel_rfl, fun K J c x => by kernel_rfl⟩
theorem spec_l1New_tie (n : Nat) (code0 : List Int) : evF (T := T) (Phi n 1) (spec_l1New_Ls n) spec_l1New_ann n Try.f65 (sg 65) [vA T 22 code0] spec_l1New_dec = spec_l1New n code0 := by kernel_rfl
theorem spec_l1New_lo (n : Nat) : LoopsOk (T := T) (Phi n 1) (spec_l1New_Ls n) spec_l1New_ann n spec_l1New_code := loopsOk_all (cs := [spec_l1New_3_c]) (by kernel_rfl) ⟨⟨_, by kernel_rfl, spec_l1New_3_le n⟩, trivial⟩
theorem spec_l1New_ok (n : Nat) : EntOk Try.prog (ents n) (spec_l1New_ent n) := by
  intro hs ar y hg h
  replace h : spec_l1New_D n ar = some y := h
  unfold spec_l1New_D at h
  replace h := ocons_some h
  obtain ⟨a0, r0, rfl, h⟩ := h
  replace h := onil_some h
  obtain ⟨rfl, h⟩ := h
  obtain ⟨code0, qh0, h⟩ := obind_some h
  rw [argV_eq ok qh0]
  exact call_of (phiE_nat _ _) hs ok mixed Try.func65 (c := spec_l1New_code) (by kernel_rfl) (spec_l1New_lo n) (by kernel_rfl) (by kernel_rfl) (by kernel_rfl) spec_l1New_de ((spec_l1New_tie n code0).trans h)
noncomputable def spec_l1Byte_code : Code := match Try.f143.body with | some c => c | none => .skip
def spec_l1Byte_ann : Ann := fun id => none
def spec_l1Byte_Ls (n : Nat) : Nat → Option (LSpec T) := fun id => none
theorem spec_l1Byte_tie (n : Nat) (c0 : Sl1Cur) : evF (T := T) (Phi n 2) (spec_l1Byte_Ls n) spec_l1Byte_ann n Try.f143 (sg 143) [.ptr 160 c0] spec_l1Byte_dec = spec_l1Byte n c0 := by kernel_rfl
theorem spec_l1Byte_lo (n : Nat) : LoopsOk (T := T) (Phi n 2) (spec_l1Byte_Ls n) spec_l1Byte_ann n spec_l1Byte_code := loopsOk_all (cs := []) (by kernel_rfl) trivial
theorem spec_l1Byte_ok (n : Nat) : EntOk Try.prog (ents n) (spec_l1Byte_ent n) := by
  intro hs ar y hg h
  replace h : spec_l1Byte_D n ar = some y := h
  unfold spec_l1Byte_D at h
  replace h := ocons_some h
  obtain ⟨a0, r0, rfl, h⟩ := h
  replace h := onil_some h
  obtain ⟨rfl, h⟩ := h
  obtain ⟨c0, qh0, h⟩ := obind_some h
  rw [argP_eq qh0]
  exact call_of (phiE_nat _ _) hs ok mixed Try.func143 (c := spec_l1Byte_code) (by kernel_rfl) (spec_l1Byte_lo n) (by kernel_rfl) (by kernel_rfl) (by kernel_rfl) spec_l1Byte_de ((spec_l1Byte_tie n c0).trans h)
noncomputable def spec_l1Below_code : Code := match Try.f76.body with | some c => c | none => .skip
def spec_l1Below_ann : Ann := fun id => none
def spec_l1Below_Ls (n : Nat) : Nat → Option (LSpec T) := fun id => none
theorem spec_l1Below_tie (n : Nat) (c0 : Sl1Cur) (n1 : Int) : evF (T := T) (Phi n 3) (spec_l1Below_Ls n) spec_l1Below_ann n Try.f76 (sg 76) [.ptr 160 c0, vA T 3 n1] spec_l1Below_dec = spec_l1Below n c0 n1 := by kernel_rfl
theorem spec_l1Below_lo (n : Nat) : LoopsOk (T := T) (Phi n 3) (spec_l1Below_Ls n) spec_l1Below_ann n spec_l1Below_code := loopsOk_all (cs := []) (by kernel_rfl) trivial
theorem spec_l1Below_ok (n : Nat) : EntOk Try.prog (ents n) (spec_l1Below_ent n) := by
  intro hs ar y hg h
  replace h : spec_l1Below_D n ar = some y := h
  unfold spec_l1Below_D at h
  replace h := ocons_some h
  obtain ⟨a0, r0, rfl, h⟩ := h
  replace h := ocons_some h
  obtain ⟨a1, r1, rfl, h⟩ := h
  replace h := onil_some h
  obtain ⟨rfl, h⟩ := h
  obtain ⟨c0, qh0, h⟩ := obind_some h
  obtain ⟨n1, qh1, h⟩ := obind_some h
  rw [argP_eq qh0, argV_eq ok qh1]
  exact call_of (phiE_nat _ _) hs ok mixed Try.func76 (c := spec_l1Below_code) (by kernel_rfl) (spec_l1Below_lo n) (by kernel_rfl) (by kernel_rfl) (by kernel_rfl) spec_l1Below_de ((spec_l1Below_tie n c0 n1).trans h)
noncomputable def spec_l1PickInt_code : Code := match Try.f67.body with | some c => c | none => .skip
def spec_l1PickInt_ann : Ann := fun id => none
def spec_l1PickInt_Ls (n : Nat) : Nat → Option (LSpec T) := fun id => none
theorem spec_l1PickInt_tie (n : Nat) (c0 : Sl1Cur) (list1 : List Int) : evF (T := T) (Phi n 4) (spec_l1PickInt_Ls n) spec_l1PickInt_ann n Try.f67 (sg 67) [.ptr 160 c0, vA T 41 list1] spec_l1PickInt_dec = spec_l1PickInt n c0 list1 := by kernel_rfl
theorem spec_l1PickInt_lo (n : Nat) : LoopsOk (T := T) (Phi n 4) (spec_l1PickInt_Ls n) spec_l1PickInt_ann n spec_l1PickInt_code := loopsOk_all (cs := []) (by kernel_rfl) trivial
theorem spec_l1PickInt_ok (n : Nat) : EntOk Try.prog (ents n) (spec_l1PickInt_ent n) := by
  intro hs ar y hg h
  replace h : spec_l1PickInt_D n ar = some y := h
  unfold spec_l1PickInt_D at h
  replace h := ocons_some h
  obtain ⟨a0, r0, rfl, h⟩ := h
  replace h := ocons_some h
  obtain ⟨a1, r1, rfl, h⟩ := h
  replace h := onil_some h
  obtain ⟨rfl, h⟩ := h
  obtain ⟨c0, qh0, h⟩ := obind_some h
  obtain ⟨list1, qh1, h⟩ := obind_some h
  rw [argP_eq qh0, argV_eq ok qh1]
  exact call_of (phiE_nat _ _) hs ok mixed Try.func67 (c := spec_l1PickInt_code) (by kernel_rfl) (spec_l1PickInt_lo n) (by kernel_rfl) (by kernel_rfl) (by kernel_rfl) spec_l1PickInt_de ((spec_l1PickInt_tie n c0 list1).trans h)
noncomputable def spec_l12DrawBays_code : Code := match Try.f74.body with | some c => c | none => .skip
def spec_l12DrawBays_3_sv : List Sv := [.one (.ptr 4503599627370496 0 0), .one (.bool), .one (.own 3000000 121 false), .one (.int .i64)]
def spec_l12DrawBays_3_so : List So := [.var [.arr 5, .int .i64, .int .i64], .arr 121 false]
def spec_l12DrawBays_3_emb (c : Bool) (x : Int × Sl1Cur × List SHatch) : EVs T spec_l12DrawBays_3_sv × EOs T spec_l12DrawBays_3_so := (((), c, (), x.1, ()), ((x.2.1.b, x.2.1.i, x.2.1.h, ()), x.2.2, ()))
def spec_l12DrawBays_3_prj (y : EVs T spec_l12DrawBays_3_sv × EOs T spec_l12DrawBays_3_so) : Bool × (Int × Sl1Cur × List SHatch) := ((y.1.2.1), (y.1.2.2.2.1, ((⟨y.2.1.1, y.2.1.2.1, y.2.1.2.2.1⟩ : Sl1Cur) : Sl1Cur), y.2.2.1))
def spec_l12DrawBays_3_b (n : Nat) {R : Type} (K : Ex → Sm.St T → Option R) (c : Bool) (x : Int × Sl1Cur × List SHatch) (J : (Int × Sl1Cur × List SHatch) → Option R) : Option R :=
  spec_l12DrawBays_L3 n (fun (y0 : Sl1Cur) (y1 : List SHatch) => K (.exit 0) (stOf (T := T) [0, 5] [4503599627370496, 3000000] [.one (.ptr 4503599627370496 0 0), .one (.own 3000000 121 false)] [.var [.arr 5, .int .i64, .int .i64], .arr 121 false] ((), (), ()) ((y0.b, y0.i, y0.h, ()), y1, ()))) (fun z0 z1 z2 => J (z0, z1, z2)) c x.1 x.2.1 x.2.2
def spec_l12DrawBays_3_sp (n : Nat) : LSpec T := mkSpec T ⟨[((.reg 5), 3000000, 121)], [0, 1, 5, 6], [4503599627370496, 3000000]⟩ spec_l12DrawBays_3_sv spec_l12DrawBays_3_so (Bool) (Int × Sl1Cur × List SHatch) spec_l12DrawBays_3_emb spec_l12DrawBays_3_prj (spec_l12DrawBays_3_b n)
noncomputable def spec_l12DrawBays_3_c : Code := ((loopCodes spec_l12DrawBays_code)[0]?).getD .skip
def spec_l12DrawBays_23_sv : List Sv := [.one (.own 3000000 121 false), .one (.int .i64)]
def spec_l12DrawBays_23_so : List So := [.arr 121 false, .var [.arr 5, .int .i64, .int .i64]]
def spec_l12DrawBays_23_emb (c : Sl1Cur) (x : Int × List SHatch) : EVs T spec_l12DrawBays_23_sv × EOs T spec_l12DrawBays_23_so := (((), x.1, ()), (x.2, (c.b, c.i, c.h, ()), ()))
def spec_l12DrawBays_23_prj (y : EVs T spec_l12DrawBays_23_sv × EOs T spec_l12DrawBays_23_so) : Sl1Cur × (Int × List SHatch) := ((((⟨y.2.2.1.1, y.2.2.1.2.1, y.2.2.1.2.2.1⟩ : Sl1Cur) : Sl1Cur)), (y.1.2.1, y.2.1))
def spec_l12DrawBays_23_b (n : Nat) {R : Type} (K : Ex → Sm.St T → Option R) (c : Sl1Cur) (x : Int × List SHatch) (J : (Int × List SHatch) → Option R) : Option R :=
  spec_l12DrawBays_L23 n (fun (y0 : List SHatch) => K (.exit 3) (stOf (T := T) [5] [3000000, 4503599627370496] [.one (.own 3000000 121 false)] [.arr 121 false, .var [.arr 5, .int .i64, .int .i64]] ((), ()) (y0, (c.b, c.i, c.h, ()), ()))) (fun z0 z1 => J (z0, z1)) x.1 x.2 c
def spec_l12DrawBays_23_sp (n : Nat) : LSpec T := mkSpec T ⟨[((.reg 5), 3000000, 121)], [5, 8], [3000000, 4503599627370496]⟩ spec_l12DrawBays_23_sv spec_l12DrawBays_23_so (Sl1Cur) (Int × List SHatch) spec_l12DrawBays_23_emb spec_l12DrawBays_23_prj (spec_l12DrawBays_23_b n)
noncomputable def spec_l12DrawBays_23_c : Code := ((loopCodes spec_l12DrawBays_code)[1]?).getD .skip
def spec_l12DrawBays_ann : Ann := fun id => bif Nat.beq id 3000003 then some ⟨[((.reg 5), 3000000, 121)], [0, 5], [4503599627370496, 3000000]⟩ else bif Nat.beq id 6000023 then some ⟨[((.reg 5), 3000000, 121)], [5], [3000000, 4503599627370496]⟩ else none
def spec_l12DrawBays_Ls (n : Nat) : Nat → Option (LSpec T) := fun id => bif Nat.beq id 3 then some (spec_l12DrawBays_3_sp n) else bif Nat.beq id 23 then some (spec_l12DrawBays_23_sp n) else none
theorem spec_l12DrawBays_3_le (n : Nat) : LoopEq (T := T) (Phi n 5) (spec_l12DrawBays_Ls n) spec_l12DrawBays_ann n spec_l12DrawBays_3_c (spec_l12DrawBays_3_sp n) := ⟨mkSpec_dec (fun y => rfl), fun c x => by kernel_rfl, fun K J c x => by kernel_rfl⟩
theorem spec_l12DrawBays_23_le (n : Nat) : LoopEq (T := T) (Phi n 5) (spec_l12DrawBays_Ls n) spec_l12DrawBays_ann n spec_l12DrawBays_23_c (spec_l12DrawBays_23_sp n) := ⟨mkSpec_dec (fun y => rfl), fun c x => by kernel_rfl, fun K J c x => by kernel_rfl⟩
theorem spec_l12DrawBays_tie (n : Nat) (c0 : Sl1Cur) (small1 : Bool) : evF (T := T) (Phi n 5) (spec_l12DrawBays_Ls n) spec_l12DrawBays_ann n Try.f74 (sg 74) [.ptr 160 c0, vA T 4 small1] spec_l12DrawBays_dec = spec_l12DrawBays n c0 small1 := by kernel_rfl
theorem spec_l12DrawBays_lo (n : Nat) : LoopsOk (T := T) (Phi n 5) (spec_l12DrawBays_Ls n) spec_l12DrawBays_ann n spec_l12DrawBays_code := loopsOk_all (cs := [spec_l12DrawBays_3_c, spec_l12DrawBays_23_c]) (by kernel_rfl) ⟨⟨_, by kernel_rfl, spec_l12DrawBays_3_le n⟩, ⟨_, by kernel_rfl, spec_l12DrawBays_23_le n⟩, trivial⟩
theorem spec_l12DrawBays_ok (n : Nat) : EntOk Try.prog (ents n) (spec_l12DrawBays_ent n) := by
  intro hs ar y hg h
  replace h : spec_l12DrawBays_D n ar = some y := h
  unfold spec_l12DrawBays_D at h
  replace h := ocons_some h
  obtain ⟨a0, r0, rfl, h⟩ := h
  replace h := ocons_some h
  obtain ⟨a1, r1, rfl, h⟩ := h
  replace h := onil_some h
  obtain ⟨rfl, h⟩ := h
  obtain ⟨c0, qh0, h⟩ := obind_some h
  obtain ⟨small1, qh1, h⟩ := obind_some h
  rw [argP_eq qh0, argV_eq ok qh1]
  exact call_of (phiE_nat _ _) hs ok mixed Try.func74 (c := spec_l12DrawBays_code) (by kernel_rfl) (spec_l12DrawBays_lo n) (by kernel_rfl) (by kernel_rfl) (by kernel_rfl) spec_l12DrawBays_de ((spec_l12DrawBays_tie n c0 small1).trans h)
noncomputable def spec_l12At_code : Code := match Try.f77.body with | some c => c | none => .skip
def spec_l12At_2_sv : List Sv := [.one (.arr 47), .one (.ptr 24 0 0), .one (.int .i64)]
def spec_l12At_2_so : List So := [.var [.int .i64, .int .i64, .int .i64]]
def spec_l12At_2_emb (c : List SStow × SSpot) (x : Int) : EVs T spec_l12At_2_sv × EOs T spec_l12At_2_so := ((c.1, (), x, ()), ((c.2.Bay, c.2.Row, c.2.Tier, ()), ()))
def spec_l12At_2_prj (y : EVs T spec_l12At_2_sv × EOs T spec_l12At_2_so) : (List SStow × SSpot) × Int := ((y.1.1, ((⟨y.2.1.1, y.2.1.2.1, y.2.1.2.2.1⟩ : SSpot) : SSpot)), (y.1.2.2.1))
def spec_l12At_2_b (n : Nat) {R : Type} (K : Ex → Sm.St T → Option R) (c : List SStow × SSpot) (x : Int) (J : Int → Option R) : Option R :=
  spec_l12At_L2 n (K (.exit 0) (stOf (T := T) [] [] [] [] () ())) (fun (y0 : Int) => K .ret (stOf (T := T) [4] [] [.one (.int .i64)] [] (y0, ()) ())) J c.1 x c.2
def spec_l12At_2_sp (n : Nat) : LSpec T := mkSpec T ⟨[], [0, 3, 5], [24]⟩ spec_l12At_2_sv spec_l12At_2_so (List SStow × SSpot) (Int) spec_l12At_2_emb spec_l12At_2_prj (spec_l12At_2_b n)
noncomputable def spec_l12At_2_c : Code := ((loopCodes spec_l12At_code)[0]?).getD .skip
def spec_l12At_ann : Ann := fun id => bif Nat.beq id 3000002 then some ⟨[], [], []⟩ else bif Nat.beq id 2000002 then some ⟨[], [4], []⟩ else none
def spec_l12At_Ls (n : Nat) : Nat → Option (LSpec T) := fun id => bif Nat.beq id 2 then some (spec_l12At_2_sp n) else none
theorem spec_l12At_2_le (n : Nat) : LoopEq (T := T) (Phi n 6) (spec_l12At_Ls n) spec_l12At_ann n spec_l12At_2_c (spec_l12At_2_sp n) := ⟨mkSpec_dec (fun y => rfl), fun c x => by kernel_rfl, fun K J c x => by kernel_rfl⟩
theorem spec_l12At_tie (n : Nat) (list0 : List SStow) (s1 : SSpot) : evF (T := T) (Phi n 6) (spec_l12At_Ls n) spec_l12At_ann n Try.f77 (sg 77) [vA T 34 list0, vA T 45 s1] spec_l12At_dec = spec_l12At n list0 s1 := by kernel_rfl
theorem spec_l12At_lo (n : Nat) : LoopsOk (T := T) (Phi n 6) (spec_l12At_Ls n) spec_l12At_ann n spec_l12At_code := loopsOk_all (cs := [spec_l12At_2_c]) (by kernel_rfl) ⟨⟨_, by kernel_rfl, spec_l12At_2_le n⟩, trivial⟩
theorem spec_l12At_ok (n : Nat) : EntOk Try.prog (ents n) (spec_l12At_ent n) := by
  intro hs ar y hg h
  replace h : spec_l12At_D n ar = some y := h
  unfold spec_l12At_D at h
  replace h := ocons_some h
  obtain ⟨a0, r0, rfl, h⟩ := h
  replace h := ocons_some h
  obtain ⟨a1, r1, rfl, h⟩ := h
  replace h := onil_some h
  obtain ⟨rfl, h⟩ := h
  obtain ⟨list0, qh0, h⟩ := obind_some h
  obtain ⟨s1, qh1, h⟩ := obind_some h
  rw [argV_eq ok qh0, argV_eq ok qh1]
  exact call_of (phiE_nat _ _) hs ok mixed Try.func77 (c := spec_l12At_code) (by kernel_rfl) (spec_l12At_lo n) (by kernel_rfl) (by kernel_rfl) (by kernel_rfl) spec_l12At_de ((spec_l12At_tie n list0 s1).trans h)
noncomputable def spec_l12Stack_code : Code := match Try.f142.body with | some c => c | none => .skip
def spec_l12Stack_3_sv : List Sv := [.one (.arr 47), .one (.int .i64), .one (.int .i64), .one (.own 3000000 32 false), .one (.int .i64)]
def spec_l12Stack_3_so : List So := [.arr 32 false]
def spec_l12Stack_3_emb (c : List SStow × Int × Int) (x : Int × List SBox) : EVs T spec_l12Stack_3_sv × EOs T spec_l12Stack_3_so := ((c.1, c.2.1, c.2.2, (), x.1, ()), (x.2, ()))
def spec_l12Stack_3_prj (y : EVs T spec_l12Stack_3_sv × EOs T spec_l12Stack_3_so) : (List SStow × Int × Int) × (Int × List SBox) := ((y.1.1, y.1.2.1, y.1.2.2.1), (y.1.2.2.2.2.1, y.2.1))
def spec_l12Stack_3_b (n : Nat) {R : Type} (K : Ex → Sm.St T → Option R) (c : List SStow × Int × Int) (x : Int × List SBox) (J : (Int × List SBox) → Option R) : Option R :=
  spec_l12Stack_L3 n (fun (y0 : List SBox) => K (.exit 0) (stOf (T := T) [7] [3000000] [.one (.own 3000000 32 false)] [.arr 32 false] ((), ()) (y0, ()))) (fun z0 z1 => J (z0, z1)) c.1 c.2.1 c.2.2 x.1 x.2
def spec_l12Stack_3_sp (n : Nat) : LSpec T := mkSpec T ⟨[((.reg 7), 3000000, 32)], [0, 1, 2, 7, 8], [3000000]⟩ spec_l12Stack_3_sv spec_l12Stack_3_so (List SStow × Int × Int) (Int × List SBox) spec_l12Stack_3_emb spec_l12Stack_3_prj (spec_l12Stack_3_b n)
noncomputable def spec_l12Stack_3_c : Code := ((loopCodes spec_l12Stack_code)[0]?).getD .skip
def spec_l12Stack_ann : Ann := fun id => bif Nat.beq id 3000003 then some ⟨[((.reg 7), 3000000, 32)], [7], [3000000]⟩ else none
def spec_l12Stack_Ls (n : Nat) : Nat → Option (LSpec T) := fun id => bif Nat.beq id 3 then some (spec_l12Stack_3_sp n) else none
theorem spec_l12Stack_3_le (n : Nat) : LoopEq (T := T) (Phi n 7) (spec_l12Stack_Ls n) spec_l12Stack_ann n spec_l12Stack_3_c (spec_l12Stack_3_sp n) := ⟨mkSpec_dec (fun y => rfl), fun c x => by kernel_rfl, fun K J c x => by kernel_rfl⟩
theorem spec_l12Stack_tie (n : Nat) (list0 : List SStow) (bay1 : Int) (row2 : Int) : evF (T := T) (Phi n 7) (spec_l12Stack_Ls n) spec_l12Stack_ann n Try.f142 (sg 142) [vA T 34 list0, vA T 3 bay1, vA T 3 row2] spec_l12Stack_dec = spec_l12Stack n list0 bay1 row2 := by kernel_rfl
theorem spec_l12Stack_lo (n : Nat) : LoopsOk (T := T) (Phi n 7) (spec_l12Stack_Ls n) spec_l12Stack_ann n spec_l12Stack_code := loopsOk_all (cs := [spec_l12Stack_3_c]) (by kernel_rfl) ⟨⟨_, by kernel_rfl, spec_l12Stack_3_le n⟩, trivial⟩
theorem spec_l12Stack_ok (n : Nat) : EntOk Try.prog (ents n) (spec_l12Stack_ent n) := by
  intro hs ar y hg h
  replace h : spec_l12Stack_D n ar = some y := h
  unfold spec_l12Stack_D at h
  replace h := ocons_some h
  obtain ⟨a0, r0, rfl, h⟩ := h
  replace h := ocons_some h
  obtain ⟨a1, r1, rfl, h⟩ := h
  replace h := ocons_some h
  obtain ⟨a2, r2, rfl, h⟩ := h
  replace h := onil_some h
  obtain ⟨rfl, h⟩ := h
  obtain ⟨list0, qh0, h⟩ := obind_some h
  obtain ⟨bay1, qh1, h⟩ := obind_some h
  obtain ⟨row2, qh2, h⟩ := obind_some h
  rw [argV_eq ok qh0, argV_eq ok qh1, argV_eq ok qh2]
  exact call_of (phiE_nat _ _) hs ok mixed Try.func142 (c := spec_l12Stack_code) (by kernel_rfl) (spec_l12Stack_lo n) (by kernel_rfl) (by kernel_rfl) (by kernel_rfl) spec_l12Stack_de ((spec_l12Stack_tie n list0 bay1 row2).trans h)
noncomputable def spec_l1In_code : Code := match Try.f71.body with | some c => c | none => .skip
def spec_l1In_ann : Ann := fun id => none
def spec_l1In_Ls (n : Nat) : Nat → Option (LSpec T) := fun id => none
theorem spec_l1In_tie (n : Nat) (x0 : Int) (a1 : Int) (b2 : Int) : evF (T := T) (Phi n 8) (spec_l1In_Ls n) spec_l1In_ann n Try.f71 (sg 71) [vA T 3 x0, vA T 3 a1, vA T 3 b2] spec_l1In_dec = spec_l1In n x0 a1 b2 := by kernel_rfl
theorem spec_l1In_lo (n : Nat) : LoopsOk (T := T) (Phi n 8) (spec_l1In_Ls n) spec_l1In_ann n spec_l1In_code := loopsOk_all (cs := []) (by kernel_rfl) trivial
theorem spec_l1In_ok (n : Nat) : EntOk Try.prog (ents n) (spec_l1In_ent n) := by
  intro hs ar y hg h
  replace h : spec_l1In_D n ar = some y := h
  unfold spec_l1In_D at h
  replace h := ocons_some h
  obtain ⟨a0, r0, rfl, h⟩ := h
  replace h := ocons_some h
  obtain ⟨a1, r1, rfl, h⟩ := h
  replace h := ocons_some h
  obtain ⟨a2, r2, rfl, h⟩ := h
  replace h := onil_some h
  obtain ⟨rfl, h⟩ := h
  obtain ⟨x0, qh0, h⟩ := obind_some h
  obtain ⟨a1, qh1, h⟩ := obind_some h
  obtain ⟨b2, qh2, h⟩ := obind_some h
  rw [argV_eq ok qh0, argV_eq ok qh1, argV_eq ok qh2]
  exact call_of (phiE_nat _ _) hs ok mixed Try.func71 (c := spec_l1In_code) (by kernel_rfl) (spec_l1In_lo n) (by kernel_rfl) (by kernel_rfl) (by kernel_rfl) spec_l1In_de ((spec_l1In_tie n x0 a1 b2).trans h)
noncomputable def spec_l11Letter_code : Code := match Try.f181.body with | some c => c | none => .skip
def spec_l11Letter_2_sv : List Sv := [.one (.int .i64), .one (.int .i64)]
def spec_l11Letter_2_so : List So := []
def spec_l11Letter_2_emb (c : Unit) (x : Int × Int) : EVs T spec_l11Letter_2_sv × EOs T spec_l11Letter_2_so := ((x.1, x.2, ()), ())
def spec_l11Letter_2_prj (y : EVs T spec_l11Letter_2_sv × EOs T spec_l11Letter_2_so) : Unit × (Int × Int) := ((), (y.1.1, y.1.2.1))
def spec_l11Letter_2_b (n : Nat) {R : Type} (K : Ex → Sm.St T → Option R) (c : Unit) (x : Int × Int) (J : (Int × Int) → Option R) : Option R :=
  spec_l11Letter_L2 n (fun (y0 : Int) => K (.exit 0) (stOf (T := T) [3] [] [.one (.int .i64)] [] (y0, ()) ())) (fun z0 z1 => J (z0, z1)) x.1 x.2
def spec_l11Letter_2_sp (n : Nat) : LSpec T := mkSpec T ⟨[], [0, 3], []⟩ spec_l11Letter_2_sv spec_l11Letter_2_so (Unit) (Int × Int) spec_l11Letter_2_emb spec_l11Letter_2_prj (spec_l11Letter_2_b n)
noncomputable def spec_l11Letter_2_c : Code := ((loopCodes spec_l11Letter_code)[0]?).getD .skip
def spec_l11Letter_ann : Ann := fun id => bif Nat.beq id 3000002 then some ⟨[], [3], []⟩ else none
def spec_l11Letter_Ls (n : Nat) : Nat → Option (LSpec T) := fun id => bif Nat.beq id 2 then some (spec_l11Letter_2_sp n) else none
theorem spec_l11Letter_2_le (n : Nat) : LoopEq (T := T) (Phi n 9) (spec_l11Letter_Ls n) spec_l11Letter_ann n spec_l11Letter_2_c (spec_l11Letter_2_sp n) := ⟨mkSpec_dec (fun y => rfl), fun c x => by kernel_rfl, fun K J c x => by kernel_rfl⟩
theorem spec_l11Letter_tie (n : Nat) (k0 : Int) : evF (T := T) (Phi n 9) (spec_l11Letter_Ls n) spec_l11Letter_ann n Try.f181 (sg 181) [vA T 3 k0] spec_l11Letter_dec = spec_l11Letter n k0 := by kernel_rfl
theorem spec_l11Letter_lo (n : Nat) : LoopsOk (T := T) (Phi n 9) (spec_l11Letter_Ls n) spec_l11Letter_ann n spec_l11Letter_code := loopsOk_all (cs := [spec_l11Letter_2_c]) (by kernel_rfl) ⟨⟨_, by kernel_rfl, spec_l11Letter_2_le n⟩, trivial⟩
theorem spec_l11Letter_ok (n : Nat) : EntOk Try.prog (ents n) (spec_l11Letter_ent n) := by
  intro hs ar y hg h
  replace h : spec_l11Letter_D n ar = some y := h
  unfold spec_l11Letter_D at h
  replace h := ocons_some h
  obtain ⟨a0, r0, rfl, h⟩ := h
  replace h := onil_some h
  obtain ⟨rfl, h⟩ := h
  obtain ⟨k0, qh0, h⟩ := obind_some h
  rw [argV_eq ok qh0]
  exact call_of (phiE_nat _ _) hs ok mixed Try.func181 (c := spec_l11Letter_code) (by kernel_rfl) (spec_l11Letter_lo n) (by kernel_rfl) (by kernel_rfl) (by kernel_rfl) spec_l11Letter_de ((spec_l11Letter_tie n k0).trans h)
noncomputable def spec_CheckDigit_code : Code := match Try.f170.body with | some c => c | none => .skip
def spec_CheckDigit_5_sv : List Sv := [.one (.str), .one (.int .i64), .one (.int .i64)]
def spec_CheckDigit_5_so : List So := []
def spec_CheckDigit_5_emb (c : ByteArray) (x : Int × Int) : EVs T spec_CheckDigit_5_sv × EOs T spec_CheckDigit_5_so := ((c, x.1, x.2, ()), ())
def spec_CheckDigit_5_prj (y : EVs T spec_CheckDigit_5_sv × EOs T spec_CheckDigit_5_so) : ByteArray × (Int × Int) := ((y.1.1), (y.1.2.1, y.1.2.2.1))
def spec_CheckDigit_5_b (n : Nat) {R : Type} (K : Ex → Sm.St T → Option R) (c : ByteArray) (x : Int × Int) (J : (Int × Int) → Option R) : Option R :=
  spec_CheckDigit_L5 n (fun (y0 : Int) => K (.exit 0) (stOf (T := T) [3] [] [.one (.int .i64)] [] (y0, ()) ())) (fun (y0 : Int) => K .ret (stOf (T := T) [2] [] [.one (.int .i64)] [] (y0, ()) ())) (fun z0 z1 => J (z0, z1)) c x.1 x.2
def spec_CheckDigit_5_sp (n : Nat) : LSpec T := mkSpec T ⟨[], [0, 3, 4], []⟩ spec_CheckDigit_5_sv spec_CheckDigit_5_so (ByteArray) (Int × Int) spec_CheckDigit_5_emb spec_CheckDigit_5_prj (spec_CheckDigit_5_b n)
noncomputable def spec_CheckDigit_5_c : Code := ((loopCodes spec_CheckDigit_code)[0]?).getD .skip
def spec_CheckDigit_ann : Ann := fun id => bif Nat.beq id 3000005 then some ⟨[], [3], []⟩ else bif Nat.beq id 2000005 then some ⟨[], [2], []⟩ else none
def spec_CheckDigit_Ls (n : Nat) : Nat → Option (LSpec T) := fun id => bif Nat.beq id 5 then some (spec_CheckDigit_5_sp n) else none
theorem spec_CheckDigit_5_le (n : Nat) : LoopEq (T := T) (Phi n 10) (spec_CheckDigit_Ls n) spec_CheckDigit_ann n spec_CheckDigit_5_c (spec_CheckDigit_5_sp n) := ⟨mkSpec_dec (fun y => rfl), fun c x => by kernel_rfl, fun K J c x => by kernel_rfl⟩
theorem spec_CheckDigit_tie (n : Nat) (name0 : ByteArray) : evF (T := T) (Phi n 10) (spec_CheckDigit_Ls n) spec_CheckDigit_ann n Try.f170 (sg 170) [vA T 9 name0] spec_CheckDigit_dec = spec_CheckDigit n name0 := by kernel_rfl
theorem spec_CheckDigit_lo (n : Nat) : LoopsOk (T := T) (Phi n 10) (spec_CheckDigit_Ls n) spec_CheckDigit_ann n spec_CheckDigit_code := loopsOk_all (cs := [spec_CheckDigit_5_c]) (by kernel_rfl) ⟨⟨_, by kernel_rfl, spec_CheckDigit_5_le n⟩, trivial⟩
theorem spec_CheckDigit_ok (n : Nat) : EntOk Try.prog (ents n) (spec_CheckDigit_ent n) := by
  intro hs ar y hg h
  replace h : spec_CheckDigit_D n ar = some y := h
  unfold spec_CheckDigit_D at h
  replace h := ocons_some h
  obtain ⟨a0, r0, rfl, h⟩ := h
  replace h := onil_some h
  obtain ⟨rfl, h⟩ := h
  obtain ⟨name0, qh0, h⟩ := obind_some h
  rw [argV_eq ok qh0]
  exact call_of (phiE_nat _ _) hs ok mixed Try.func170 (c := spec_CheckDigit_code) (by kernel_rfl) (spec_CheckDigit_lo n) (by kernel_rfl) (by kernel_rfl) (by kernel_rfl) spec_CheckDigit_de ((spec_CheckDigit_tie n name0).trans h)
noncomputable def spec_l11DrawName_code : Code := match Try.f156.body with | some c => c | none => .skip
def spec_l11DrawName_3_sv : List Sv := [.one (.ptr 4503599627370496 0 0), .one (.own 3000000 5 false), .one (.int .i64)]
def spec_l11DrawName_3_so : List So := [.var [.arr 5, .int .i64, .int .i64], .arr 5 false]
def spec_l11DrawName_3_emb (c : Unit) (x : Int × Sl1Cur × List Int) : EVs T spec_l11DrawName_3_sv × EOs T spec_l11DrawName_3_so := (((), (), x.1, ()), ((x.2.1.b, x.2.1.i, x.2.1.h, ()), x.2.2, ()))
def spec_l11DrawName_3_prj (y : EVs T spec_l11DrawName_3_sv × EOs T spec_l11DrawName_3_so) : Unit × (Int × Sl1Cur × List Int) := ((), (y.1.2.2.1, ((⟨y.2.1.1, y.2.1.2.1, y.2.1.2.2.1⟩ : Sl1Cur) : Sl1Cur), y.2.2.1))
def spec_l11DrawName_3_b (n : Nat) {R : Type} (K : Ex → Sm.St T → Option R) (c : Unit) (x : Int × Sl1Cur × List Int) (J : (Int × Sl1Cur × List Int) → Option R) : Option R :=
  spec_l11DrawName_L3 n (fun (y0 : Sl1Cur) (y1 : List Int) => K (.exit 0) (stOf (T := T) [0, 3] [4503599627370496, 3000000] [.one (.ptr 4503599627370496 0 0), .one (.own 3000000 5 false)] [.var [.arr 5, .int .i64, .int .i64], .arr 5 false] ((), (), ()) ((y0.b, y0.i, y0.h, ()), y1, ()))) (fun z0 z1 z2 => J (z0, z1, z2)) x.1 x.2.1 x.2.2
def spec_l11DrawName_3_sp (n : Nat) : LSpec T := mkSpec T ⟨[((.reg 3), 3000000, 5)], [0, 3, 4], [4503599627370496, 3000000]⟩ spec_l11DrawName_3_sv spec_l11DrawName_3_so (Unit) (Int × Sl1Cur × List Int) spec_l11DrawName_3_emb spec_l11DrawName_3_prj (spec_l11DrawName_3_b n)
noncomputable def spec_l11DrawName_3_c : Code := ((loopCodes spec_l11DrawName_code)[0]?).getD .skip
def spec_l11DrawName_7_sv : List Sv := [.one (.ptr 4503599627370496 0 0), .one (.own 3000000 5 false), .one (.int .i64)]
def spec_l11DrawName_7_so : List So := [.var [.arr 5, .int .i64, .int .i64], .arr 5 false]
def spec_l11DrawName_7_emb (c : Unit) (x : Int × Sl1Cur × List Int) : EVs T spec_l11DrawName_7_sv × EOs T spec_l11DrawName_7_so := (((), (), x.1, ()), ((x.2.1.b, x.2.1.i, x.2.1.h, ()), x.2.2, ()))
def spec_l11DrawName_7_prj (y : EVs T spec_l11DrawName_7_sv × EOs T spec_l11DrawName_7_so) : Unit × (Int × Sl1Cur × List Int) := ((), (y.1.2.2.1, ((⟨y.2.1.1, y.2.1.2.1, y.2.1.2.2.1⟩ : Sl1Cur) : Sl1Cur), y.2.2.1))
def spec_l11DrawName_7_b (n : Nat) {R : Type} (K : Ex → Sm.St T → Option R) (c : Unit) (x : Int × Sl1Cur × List Int) (J : (Int × Sl1Cur × List Int) → Option R) : Option R :=
  spec_l11DrawName_L7 n (fun (y0 : List Int) (y1 : Sl1Cur) => K (.exit 2) (stOf (T := T) [3] [3000000, 4503599627370496] [.one (.own 3000000 5 false)] [.arr 5 false, .var [.arr 5, .int .i64, .int .i64]] ((), ()) (y0, (y1.b, y1.i, y1.h, ()), ()))) (fun z0 z1 z2 => J (z0, z1, z2)) x.1 x.2.1 x.2.2
def spec_l11DrawName_7_sp (n : Nat) : LSpec T := mkSpec T ⟨[((.reg 3), 3000000, 5)], [0, 3, 5], [4503599627370496, 3000000]⟩ spec_l11DrawName_7_sv spec_l11DrawName_7_so (Unit) (Int × Sl1Cur × List Int) spec_l11DrawName_7_emb spec_l11DrawName_7_prj (spec_l11DrawName_7_b n)
noncomputable def spec_l11DrawName_7_c : Code := ((loopCodes spec_l11DrawName_code)[1]?).getD .skip
def spec_l11DrawName_ann : Ann := fun id => bif Nat.beq id 3000003 then some ⟨[((.reg 3), 3000000, 5)], [0, 3], [4503599627370496, 3000000]⟩ else bif Nat.beq id 5000007 then some ⟨[((.reg 3), 3000000, 5)], [3], [3000000, 4503599627370496]⟩ else none
def spec_l11DrawName_Ls (n : Nat) : Nat → Option (LSpec T) := fun id => bif Nat.beq id 3 then some (spec_l11DrawName_3_sp n) else bif Nat.beq id 7 then some (spec_l11DrawName_7_sp n) else none
theorem spec_l11DrawName_3_le (n : Nat) : LoopEq (T := T) (Phi n 11) (spec_l11DrawName_Ls n) spec_l11DrawName_ann n spec_l11DrawName_3_c (spec_l11DrawName_3_sp n) := ⟨mkSpec_dec (fun y => rfl), fun c x => by kernel_rfl, fun K J c x => by kernel_rfl⟩
theorem spec_l11DrawName_7_le (n : Nat) : LoopEq (T := T) (Phi n 11) (spec_l11DrawName_Ls n) spec_l11DrawName_ann n spec_l11DrawName_7_c (spec_l11DrawName_7_sp n) := ⟨mkSpec_dec (fun y => rfl), fun c x => by kernel_rfl, fun K J c x => by kernel_rfl⟩
theorem spec_l11DrawName_tie (n : Nat) (c0 : Sl1Cur) : evF (T := T) (Phi n 11) (spec_l11DrawName_Ls n) spec_l11DrawName_ann n Try.f156 (sg 156) [.ptr 160 c0] spec_l11DrawName_dec = spec_l11DrawName n c0 := by kernel_rfl
theorem spec_l11DrawName_lo (n : Nat) : LoopsOk (T := T) (Phi n 11) (spec_l11DrawName_Ls n) spec_l11DrawName_ann n spec_l11DrawName_code := loopsOk_all (cs := [spec_l11DrawName_3_c, spec_l11DrawName_7_c]) (by kernel_rfl) ⟨⟨_, by kernel_rfl, spec_l11DrawName_3_le n⟩, ⟨_, by kernel_rfl, spec_l11DrawName_7_le n⟩, trivial⟩
theorem spec_l11DrawName_ok (n : Nat) : EntOk Try.prog (ents n) (spec_l11DrawName_ent n) := by
  intro hs ar y hg h
  replace h : spec_l11DrawName_D n ar = some y := h
  unfold spec_l11DrawName_D at h
  replace h := ocons_some h
  obtain ⟨a0, r0, rfl, h⟩ := h
  replace h := onil_some h
  obtain ⟨rfl, h⟩ := h
  obtain ⟨c0, qh0, h⟩ := obind_some h
  rw [argP_eq qh0]
  exact call_of (phiE_nat _ _) hs ok mixed Try.func156 (c := spec_l11DrawName_code) (by kernel_rfl) (spec_l11DrawName_lo n) (by kernel_rfl) (by kernel_rfl) (by kernel_rfl) spec_l11DrawName_de ((spec_l11DrawName_tie n c0).trans h)
noncomputable def spec_l1Once_code : Code := match Try.f78.body with | some c => c | none => .skip
def spec_l1Once_ann : Ann := fun id => none
def spec_l1Once_Ls (n : Nat) : Nat → Option (LSpec T) := fun id => none
theorem spec_l1Once_tie (n : Nat) (c0 : Sl1Cur) (n1 : Int) : evF (T := T) (Phi n 12) (spec_l1Once_Ls n) spec_l1Once_ann n Try.f78 (sg 78) [.ptr 160 c0, vA T 3 n1] spec_l1Once_dec = spec_l1Once n c0 n1 := by kernel_rfl
theorem spec_l1Once_lo (n : Nat) : LoopsOk (T := T) (Phi n 12) (spec_l1Once_Ls n) spec_l1Once_ann n spec_l1Once_code := loopsOk_all (cs := []) (by kernel_rfl) trivial
theorem spec_l1Once_ok (n : Nat) : EntOk Try.prog (ents n) (spec_l1Once_ent n) := by
  intro hs ar y hg h
  replace h : spec_l1Once_D n ar = some y := h
  unfold spec_l1Once_D at h
  replace h := ocons_some h
  obtain ⟨a0, r0, rfl, h⟩ := h
  replace h := ocons_some h
  obtain ⟨a1, r1, rfl, h⟩ := h
  replace h := onil_some h
  obtain ⟨rfl, h⟩ := h
  obtain ⟨c0, qh0, h⟩ := obind_some h
  obtain ⟨n1, qh1, h⟩ := obind_some h
  rw [argP_eq qh0, argV_eq ok qh1]
  exact call_of (phiE_nat _ _) hs ok mixed Try.func78 (c := spec_l1Once_code) (by kernel_rfl) (spec_l1Once_lo n) (by kernel_rfl) (by kernel_rfl) (by kernel_rfl) spec_l1Once_de ((spec_l1Once_tie n c0 n1).trans h)
noncomputable def spec_l11Draw_code : Code := match Try.f100.body with | some c => c | none => .skip
def spec_l11Draw_ann : Ann := fun id => none
def spec_l11Draw_Ls (n : Nat) : Nat → Option (LSpec T) := fun id => none
theorem spec_l11Draw_tie (n : Nat) (c0 : Sl1Cur) : evF (T := T) (Phi n 13) (spec_l11Draw_Ls n) spec_l11Draw_ann n Try.f100 (sg 100) [.ptr 160 c0] spec_l11Draw_dec = spec_l11Draw n c0 := by kernel_rfl
theorem spec_l11Draw_lo (n : Nat) : LoopsOk (T := T) (Phi n 13) (spec_l11Draw_Ls n) spec_l11Draw_ann n spec_l11Draw_code := loopsOk_all (cs := []) (by kernel_rfl) trivial
theorem spec_l11Draw_ok (n : Nat) : EntOk Try.prog (ents n) (spec_l11Draw_ent n) := by
  intro hs ar y hg h
  replace h : spec_l11Draw_D n ar = some y := h
  unfold spec_l11Draw_D at h
  replace h := ocons_some h
  obtain ⟨a0, r0, rfl, h⟩ := h
  replace h := onil_some h
  obtain ⟨rfl, h⟩ := h
  obtain ⟨c0, qh0, h⟩ := obind_some h
  rw [argP_eq qh0]
  exact call_of (phiE_nat _ _) hs ok mixed Try.func100 (c := spec_l11Draw_code) (by kernel_rfl) (spec_l11Draw_lo n) (by kernel_rfl) (by kernel_rfl) (by kernel_rfl) spec_l11Draw_de ((spec_l11Draw_tie n c0).trans h)
noncomputable def spec_HatchesOk_code : Code := match Try.f96.body with | some c => c | none => .skip
def spec_HatchesOk_2_sv : List Sv := [.one (.arr 121), .one (.int .i64)]
def spec_HatchesOk_2_so : List So := []
def spec_HatchesOk_2_emb (c : List SHatch) (x : Int) : EVs T spec_HatchesOk_2_sv × EOs T spec_HatchesOk_2_so := ((c, x, ()), ())
def spec_HatchesOk_2_prj (y : EVs T spec_HatchesOk_2_sv × EOs T spec_HatchesOk_2_so) : List SHatch × Int := ((y.1.1), (y.1.2.1))
def spec_HatchesOk_2_b (n : Nat) {R : Type} (K : Ex → Sm.St T → Option R) (c : List SHatch) (x : Int) (J : Int → Option R) : Option R :=
  spec_HatchesOk_L2 n (K (.exit 0) (stOf (T := T) [0] [] [.one (.arr 121)] [] (c, ()) ())) (fun (y0 : Bool) => K .ret (stOf (T := T) [2] [] [.one (.bool)] [] (y0, ()) ())) J c x
def spec_HatchesOk_2_sp (n : Nat) : LSpec T := mkSpec T ⟨[], [0, 3], []⟩ spec_HatchesOk_2_sv spec_HatchesOk_2_so (List SHatch) (Int) spec_HatchesOk_2_emb spec_HatchesOk_2_prj (spec_HatchesOk_2_b n)
noncomputable def spec_HatchesOk_2_c : Code := ((loopCodes spec_HatchesOk_code)[0]?).getD .skip
def spec_HatchesOk_ann : Ann := fun id => bif Nat.beq id 3000002 then some ⟨[], [0], []⟩ else bif Nat.beq id 2000002 then some ⟨[], [2], []⟩ else none
def spec_HatchesOk_Ls (n : Nat) : Nat → Option (LSpec T) := fun id => bif Nat.beq id 2 then some (spec_HatchesOk_2_sp n) else none
theorem spec_HatchesOk_2_le (n : Nat) : LoopEq (T := T) (Phi n 14) (spec_HatchesOk_Ls n) spec_HatchesOk_ann n spec_HatchesOk_2_c (spec_HatchesOk_2_sp n) := ⟨mkSpec_dec (fun y => rfl), fun c x => by kernel_rfl, fun K J c x => by kernel_rfl⟩
theorem spec_HatchesOk_tie (n : Nat) (bays0 : List SHatch) : evF (T := T) (Phi n 14) (spec_HatchesOk_Ls n) spec_HatchesOk_ann n Try.f96 (sg 96) [vA T 33 bays0] spec_HatchesOk_dec = spec_HatchesOk n bays0 := by kernel_rfl
theorem spec_HatchesOk_lo (n : Nat) : LoopsOk (T := T) (Phi n 14) (spec_HatchesOk_Ls n) spec_HatchesOk_ann n spec_HatchesOk_code := loopsOk_all (cs := [spec_HatchesOk_2_c]) (by kernel_rfl) ⟨⟨_, by kernel_rfl, spec_HatchesOk_2_le n⟩, trivial⟩
theorem spec_HatchesOk_ok (n : Nat) : EntOk Try.prog (ents n) (spec_HatchesOk_ent n) := by
  intro hs ar y hg h
  replace h : spec_HatchesOk_D n ar = some y := h
  unfold spec_HatchesOk_D at h
  replace h := ocons_some h
  obtain ⟨a0, r0, rfl, h⟩ := h
  replace h := onil_some h
  obtain ⟨rfl, h⟩ := h
  obtain ⟨bays0, qh0, h⟩ := obind_some h
  rw [argV_eq ok qh0]
  exact call_of (phiE_nat _ _) hs ok mixed Try.func96 (c := spec_HatchesOk_code) (by kernel_rfl) (spec_HatchesOk_lo n) (by kernel_rfl) (by kernel_rfl) (by kernel_rfl) spec_HatchesOk_de ((spec_HatchesOk_tie n bays0).trans h)
noncomputable def spec_BoxName_code : Code := match Try.f140.body with | some c => c | none => .skip
def spec_BoxName_ann : Ann := fun id => none
def spec_BoxName_Ls (n : Nat) : Nat → Option (LSpec T) := fun id => none
theorem spec_BoxName_tie (n : Nat) (text0 : ByteArray) : evF (T := T) (Phi n 15) (spec_BoxName_Ls n) spec_BoxName_ann n Try.f140 (sg 140) [vA T 9 text0] spec_BoxName_dec = spec_BoxName n text0 := by kernel_rfl
theorem spec_BoxName_lo (n : Nat) : LoopsOk (T := T) (Phi n 15) (spec_BoxName_Ls n) spec_BoxName_ann n spec_BoxName_code := loopsOk_all (cs := []) (by kernel_rfl) trivial
theorem spec_BoxName_ok (n : Nat) : EntOk Try.prog (ents n) (spec_BoxName_ent n) := by
  intro hs ar y hg h
  replace h : spec_BoxName_D n ar = some y := h
  unfold spec_BoxName_D at h
  replace h := ocons_some h
  obtain ⟨a0, r0, rfl, h⟩ := h
  replace h := onil_some h
  obtain ⟨rfl, h⟩ := h
  obtain ⟨text0, qh0, h⟩ := obind_some h
  rw [argV_eq ok qh0]
  exact call_of (phiE_nat _ _) hs ok mixed Try.func140 (c := spec_BoxName_code) (by kernel_rfl) (spec_BoxName_lo n) (by kernel_rfl) (by kernel_rfl) (by kernel_rfl) spec_BoxName_de ((spec_BoxName_tie n text0).trans h)
noncomputable def spec_BoxOk_code : Code := match Try.f70.body with | some c => c | none => .skip
def spec_BoxOk_ann : Ann := fun id => none
def spec_BoxOk_Ls (n : Nat) : Nat → Option (LSpec T) := fun id => none
theorem spec_BoxOk_tie (n : Nat) (b0 : SBox) : evF (T := T) (Phi n 16) (spec_BoxOk_Ls n) spec_BoxOk_ann n Try.f70 (sg 70) [vA T 32 b0] spec_BoxOk_dec = spec_BoxOk n b0 := by kernel_rfl
theorem spec_BoxOk_lo (n : Nat) : LoopsOk (T := T) (Phi n 16) (spec_BoxOk_Ls n) spec_BoxOk_ann n spec_BoxOk_code := loopsOk_all (cs := []) (by kernel_rfl) trivial
theorem spec_BoxOk_ok (n : Nat) : EntOk Try.prog (ents n) (spec_BoxOk_ent n) := by
  intro hs ar y hg h
  replace h : spec_BoxOk_D n ar = some y := h
  unfold spec_BoxOk_D at h
  replace h := ocons_some h
  obtain ⟨a0, r0, rfl, h⟩ := h
  replace h := onil_some h
  obtain ⟨rfl, h⟩ := h
  obtain ⟨b0, qh0, h⟩ := obind_some h
  rw [argV_eq ok qh0]
  exact call_of (phiE_nat _ _) hs ok mixed Try.func70 (c := spec_BoxOk_code) (by kernel_rfl) (spec_BoxOk_lo n) (by kernel_rfl) (by kernel_rfl) (by kernel_rfl) spec_BoxOk_de ((spec_BoxOk_tie n b0).trans h)
noncomputable def spec_StackOk_code : Code := match Try.f15.body with | some c => c | none => .skip
def spec_StackOk_3_sv : List Sv := [.one (.arr 32), .one (.int .i64), .one (.int .i64), .one (.int .i64)]
def spec_StackOk_3_so : List So := []
def spec_StackOk_3_emb (c : List SBox × Int) (x : Int × Int) : EVs T spec_StackOk_3_sv × EOs T spec_StackOk_3_so := ((c.1, c.2, x.1, x.2, ()), ())
def spec_StackOk_3_prj (y : EVs T spec_StackOk_3_sv × EOs T spec_StackOk_3_so) : (List SBox × Int) × (Int × Int) := ((y.1.1, y.1.2.1), (y.1.2.2.1, y.1.2.2.2.1))
def spec_StackOk_3_b (n : Nat) {R : Type} (K : Ex → Sm.St T → Option R) (c : List SBox × Int) (x : Int × Int) (J : (Int × Int) → Option R) : Option R :=
  spec_StackOk_L3 n (fun (y1 : Int) => K (.exit 0) (stOf (T := T) [1, 5] [] [.one (.int .i64), .one (.int .i64)] [] (c.2, y1, ()) ())) (fun (y0 : Bool) => K .ret (stOf (T := T) [4] [] [.one (.bool)] [] (y0, ()) ())) (fun z0 z1 => J (z0, z1)) c.1 c.2 x.1 x.2
def spec_StackOk_3_sp (n : Nat) : LSpec T := mkSpec T ⟨[], [0, 1, 5, 6], []⟩ spec_StackOk_3_sv spec_StackOk_3_so (List SBox × Int) (Int × Int) spec_StackOk_3_emb spec_StackOk_3_prj (spec_StackOk_3_b n)
noncomputable def spec_StackOk_3_c : Code := ((loopCodes spec_StackOk_code)[0]?).getD .skip
def spec_StackOk_ann : Ann := fun id => bif Nat.beq id 3000003 then some ⟨[], [1, 5], []⟩ else bif Nat.beq id 2000003 then some ⟨[], [4], []⟩ else none
def spec_StackOk_Ls (n : Nat) : Nat → Option (LSpec T) := fun id => bif Nat.beq id 3 then some (spec_StackOk_3_sp n) else none
theorem spec_StackOk_3_le (n : Nat) : LoopEq (T := T) (Phi n 17) (spec_StackOk_Ls n) spec_StackOk_ann n spec_StackOk_3_c (spec_StackOk_3_sp n) := ⟨mkSpec_dec (fun y => rfl), fun c x => by kernel_rfl, fun K J c x => by kernel_rfl⟩
theorem spec_StackOk_tie (n : Nat) (boxes0 : List SBox) (most1 : Int) : evF (T := T) (Phi n 17) (spec_StackOk_Ls n) spec_StackOk_ann n Try.f15 (sg 15) [vA T 24 boxes0, vA T 3 most1] spec_StackOk_dec = spec_StackOk n boxes0 most1 := by kernel_rfl
theorem spec_StackOk_lo (n : Nat) : LoopsOk (T := T) (Phi n 17) (spec_StackOk_Ls n) spec_StackOk_ann n spec_StackOk_code := loopsOk_all (cs := [spec_StackOk_3_c]) (by kernel_rfl) ⟨⟨_, by kernel_rfl, spec_StackOk_3_le n⟩, trivial⟩
theorem spec_StackOk_ok (n : Nat) : EntOk Try.prog (ents n) (spec_StackOk_ent n) := by
  intro hs ar y hg h
  replace h : spec_StackOk_D n ar = some y := h
  unfold spec_StackOk_D at h
  replace h := ocons_some h
  obtain ⟨a0, r0, rfl, h⟩ := h
  replace h := ocons_some h
  obtain ⟨a1, r1, rfl, h⟩ := h
  replace h := onil_some h
  obtain ⟨rfl, h⟩ := h
  obtain ⟨boxes0, qh0, h⟩ := obind_some h
  obtain ⟨most1, qh1, h⟩ := obind_some h
  rw [argV_eq ok qh0, argV_eq ok qh1]
  exact call_of (phiE_nat _ _) hs ok mixed Try.func15 (c := spec_StackOk_code) (by kernel_rfl) (spec_StackOk_lo n) (by kernel_rfl) (by kernel_rfl) (by kernel_rfl) spec_StackOk_de ((spec_StackOk_tie n boxes0 most1).trans h)
noncomputable def spec_l12Cold_code : Code := match Try.f154.body with | some c => c | none => .skip
def spec_l12Cold_3_sv : List Sv := [.one (.arr 47), .one (.int .i64), .one (.int .i64), .one (.int .i64)]
def spec_l12Cold_3_so : List So := []
def spec_l12Cold_3_emb (c : List SStow × Int) (x : Int × Int) : EVs T spec_l12Cold_3_sv × EOs T spec_l12Cold_3_so := ((c.1, c.2, x.1, x.2, ()), ())
def spec_l12Cold_3_prj (y : EVs T spec_l12Cold_3_sv × EOs T spec_l12Cold_3_so) : (List SStow × Int) × (Int × Int) := ((y.1.1, y.1.2.1), (y.1.2.2.1, y.1.2.2.2.1))
def spec_l12Cold_3_b (n : Nat) {R : Type} (K : Ex → Sm.St T → Option R) (c : List SStow × Int) (x : Int × Int) (J : (Int × Int) → Option R) : Option R :=
  spec_l12Cold_L3 n (fun (y0 : Int) => K (.exit 0) (stOf (T := T) [5] [] [.one (.int .i64)] [] (y0, ()) ())) (fun z0 z1 => J (z0, z1)) c.1 c.2 x.1 x.2
def spec_l12Cold_3_sp (n : Nat) : LSpec T := mkSpec T ⟨[], [0, 1, 5, 6], []⟩ spec_l12Cold_3_sv spec_l12Cold_3_so (List SStow × Int) (Int × Int) spec_l12Cold_3_emb spec_l12Cold_3_prj (spec_l12Cold_3_b n)
noncomputable def spec_l12Cold_3_c : Code := ((loopCodes spec_l12Cold_code)[0]?).getD .skip
def spec_l12Cold_ann : Ann := fun id => bif Nat.beq id 3000003 then some ⟨[], [5], []⟩ else none
def spec_l12Cold_Ls (n : Nat) : Nat → Option (LSpec T) := fun id => bif Nat.beq id 3 then some (spec_l12Cold_3_sp n) else none
theorem spec_l12Cold_3_le (n : Nat) : LoopEq (T := T) (Phi n 18) (spec_l12Cold_Ls n) spec_l12Cold_ann n spec_l12Cold_3_c (spec_l12Cold_3_sp n) := ⟨mkSpec_dec (fun y => rfl), fun c x => by kernel_rfl, fun K J c x => by kernel_rfl⟩
theorem spec_l12Cold_tie (n : Nat) (list0 : List SStow) (bay1 : Int) : evF (T := T) (Phi n 18) (spec_l12Cold_Ls n) spec_l12Cold_ann n Try.f154 (sg 154) [vA T 34 list0, vA T 3 bay1] spec_l12Cold_dec = spec_l12Cold n list0 bay1 := by kernel_rfl
theorem spec_l12Cold_lo (n : Nat) : LoopsOk (T := T) (Phi n 18) (spec_l12Cold_Ls n) spec_l12Cold_ann n spec_l12Cold_code := loopsOk_all (cs := [spec_l12Cold_3_c]) (by kernel_rfl) ⟨⟨_, by kernel_rfl, spec_l12Cold_3_le n⟩, trivial⟩
theorem spec_l12Cold_ok (n : Nat) : EntOk Try.prog (ents n) (spec_l12Cold_ent n) := by
  intro hs ar y hg h
  replace h : spec_l12Cold_D n ar = some y := h
  unfold spec_l12Cold_D at h
  replace h := ocons_some h
  obtain ⟨a0, r0, rfl, h⟩ := h
  replace h := ocons_some h
  obtain ⟨a1, r1, rfl, h⟩ := h
  replace h := onil_some h
  obtain ⟨rfl, h⟩ := h
  obtain ⟨list0, qh0, h⟩ := obind_some h
  obtain ⟨bay1, qh1, h⟩ := obind_some h
  rw [argV_eq ok qh0, argV_eq ok qh1]
  exact call_of (phiE_nat _ _) hs ok mixed Try.func154 (c := spec_l12Cold_code) (by kernel_rfl) (spec_l12Cold_lo n) (by kernel_rfl) (by kernel_rfl) (by kernel_rfl) spec_l12Cold_de ((spec_l12Cold_tie n list0 bay1).trans h)
noncomputable def spec_l11Spot_code : Code := match Try.f175.body with | some c => c | none => .skip
def spec_l11Spot_ann : Ann := fun id => none
def spec_l11Spot_Ls (n : Nat) : Nat → Option (LSpec T) := fun id => none
theorem spec_l11Spot_tie (n : Nat) (s0 : SSpot) : evF (T := T) (Phi n 19) (spec_l11Spot_Ls n) spec_l11Spot_ann n Try.f175 (sg 175) [vA T 45 s0] spec_l11Spot_dec = spec_l11Spot n s0 := by kernel_rfl
theorem spec_l11Spot_lo (n : Nat) : LoopsOk (T := T) (Phi n 19) (spec_l11Spot_Ls n) spec_l11Spot_ann n spec_l11Spot_code := loopsOk_all (cs := []) (by kernel_rfl) trivial
theorem spec_l11Spot_ok (n : Nat) : EntOk Try.prog (ents n) (spec_l11Spot_ent n) := by
  intro hs ar y hg h
  replace h : spec_l11Spot_D n ar = some y := h
  unfold spec_l11Spot_D at h
  replace h := ocons_some h
  obtain ⟨a0, r0, rfl, h⟩ := h
  replace h := onil_some h
  obtain ⟨rfl, h⟩ := h
  obtain ⟨s0, qh0, h⟩ := obind_some h
  rw [argV_eq ok qh0]
  exact call_of (phiE_nat _ _) hs ok mixed Try.func175 (c := spec_l11Spot_code) (by kernel_rfl) (spec_l11Spot_lo n) (by kernel_rfl) (by kernel_rfl) (by kernel_rfl) spec_l11Spot_de ((spec_l11Spot_tie n s0).trans h)
noncomputable def spec_l3Size_code : Code := match Try.f176.body with | some c => c | none => .skip
def spec_l3Size_ann : Ann := fun id => none
def spec_l3Size_Ls (n : Nat) : Nat → Option (LSpec T) := fun id => none
theorem spec_l3Size_tie (n : Nat) (x0 : Int) : evF (T := T) (Phi n 20) (spec_l3Size_Ls n) spec_l3Size_ann n Try.f176 (sg 176) [vA T 3 x0] spec_l3Size_dec = spec_l3Size n x0 := by kernel_rfl
theorem spec_l3Size_lo (n : Nat) : LoopsOk (T := T) (Phi n 20) (spec_l3Size_Ls n) spec_l3Size_ann n spec_l3Size_code := loopsOk_all (cs := []) (by kernel_rfl) trivial
theorem spec_l3Size_ok (n : Nat) : EntOk Try.prog (ents n) (spec_l3Size_ent n) := by
  intro hs ar y hg h
  replace h : spec_l3Size_D n ar = some y := h
  unfold spec_l3Size_D at h
  replace h := ocons_some h
  obtain ⟨a0, r0, rfl, h⟩ := h
  replace h := onil_some h
  obtain ⟨rfl, h⟩ := h
  obtain ⟨x0, qh0, h⟩ := obind_some h
  rw [argV_eq ok qh0]
  exact call_of (phiE_nat _ _) hs ok mixed Try.func176 (c := spec_l3Size_code) (by kernel_rfl) (spec_l3Size_lo n) (by kernel_rfl) (by kernel_rfl) (by kernel_rfl) spec_l3Size_de ((spec_l3Size_tie n x0).trans h)
noncomputable def spec_l1Least_code : Code := match Try.f192.body with | some c => c | none => .skip
def spec_l1Least_ann : Ann := fun id => none
def spec_l1Least_Ls (n : Nat) : Nat → Option (LSpec T) := fun id => none
theorem spec_l1Least_tie (n : Nat) (a0 : Int) (b1 : Int) : evF (T := T) (Phi n 21) (spec_l1Least_Ls n) spec_l1Least_ann n Try.f192 (sg 192) [vA T 3 a0, vA T 3 b1] spec_l1Least_dec = spec_l1Least n a0 b1 := by kernel_rfl
theorem spec_l1Least_lo (n : Nat) : LoopsOk (T := T) (Phi n 21) (spec_l1Least_Ls n) spec_l1Least_ann n spec_l1Least_code := loopsOk_all (cs := []) (by kernel_rfl) trivial
theorem spec_l1Least_ok (n : Nat) : EntOk Try.prog (ents n) (spec_l1Least_ent n) := by
  intro hs ar y hg h
  replace h : spec_l1Least_D n ar = some y := h
  unfold spec_l1Least_D at h
  replace h := ocons_some h
  obtain ⟨a0, r0, rfl, h⟩ := h
  replace h := ocons_some h
  obtain ⟨a1, r1, rfl, h⟩ := h
  replace h := onil_some h
  obtain ⟨rfl, h⟩ := h
  obtain ⟨a0, qh0, h⟩ := obind_some h
  obtain ⟨b1, qh1, h⟩ := obind_some h
  rw [argV_eq ok qh0, argV_eq ok qh1]
  exact call_of (phiE_nat _ _) hs ok mixed Try.func192 (c := spec_l1Least_code) (by kernel_rfl) (spec_l1Least_lo n) (by kernel_rfl) (by kernel_rfl) (by kernel_rfl) spec_l1Least_de ((spec_l1Least_tie n a0 b1).trans h)
noncomputable def spec_Apart_code : Code := match Try.f177.body with | some c => c | none => .skip
def spec_Apart_ann : Ann := fun id => none
def spec_Apart_Ls (n : Nat) : Nat → Option (LSpec T) := fun id => none
theorem spec_Apart_tie (n : Nat) (a0 : Int) (b1 : Int) : evF (T := T) (Phi n 22) (spec_Apart_Ls n) spec_Apart_ann n Try.f177 (sg 177) [vA T 3 a0, vA T 3 b1] spec_Apart_dec = spec_Apart n a0 b1 := by kernel_rfl
theorem spec_Apart_lo (n : Nat) : LoopsOk (T := T) (Phi n 22) (spec_Apart_Ls n) spec_Apart_ann n spec_Apart_code := loopsOk_all (cs := []) (by kernel_rfl) trivial
theorem spec_Apart_ok (n : Nat) : EntOk Try.prog (ents n) (spec_Apart_ent n) := by
  intro hs ar y hg h
  replace h : spec_Apart_D n ar = some y := h
  unfold spec_Apart_D at h
  replace h := ocons_some h
  obtain ⟨a0, r0, rfl, h⟩ := h
  replace h := ocons_some h
  obtain ⟨a1, r1, rfl, h⟩ := h
  replace h := onil_some h
  obtain ⟨rfl, h⟩ := h
  obtain ⟨a0, qh0, h⟩ := obind_some h
  obtain ⟨b1, qh1, h⟩ := obind_some h
  rw [argV_eq ok qh0, argV_eq ok qh1]
  exact call_of (phiE_nat _ _) hs ok mixed Try.func177 (c := spec_Apart_code) (by kernel_rfl) (spec_Apart_lo n) (by kernel_rfl) (by kernel_rfl) (by kernel_rfl) spec_Apart_de ((spec_Apart_tie n a0 b1).trans h)
noncomputable def spec_KeepsApart_code : Code := match Try.f155.body with | some c => c | none => .skip
def spec_KeepsApart_ann : Ann := fun id => none
def spec_KeepsApart_Ls (n : Nat) : Nat → Option (LSpec T) := fun id => none
theorem spec_KeepsApart_tie (n : Nat) (a0 : SBox) (sa1 : SSpot) (b2 : SBox) (sb3 : SSpot) : evF (T := T) (Phi n 23) (spec_KeepsApart_Ls n) spec_KeepsApart_ann n Try.f155 (sg 155) [vA T 32 a0, vA T 45 sa1, vA T 32 b2, vA T 45 sb3] spec_KeepsApart_dec = spec_KeepsApart n a0 sa1 b2 sb3 := by kernel_rfl
theorem spec_KeepsApart_lo (n : Nat) : LoopsOk (T := T) (Phi n 23) (spec_KeepsApart_Ls n) spec_KeepsApart_ann n spec_KeepsApart_code := loopsOk_all (cs := []) (by kernel_rfl) trivial
theorem spec_KeepsApart_ok (n : Nat) : EntOk Try.prog (ents n) (spec_KeepsApart_ent n) := by
  intro hs ar y hg h
  replace h : spec_KeepsApart_D n ar = some y := h
  unfold spec_KeepsApart_D at h
  replace h := ocons_some h
  obtain ⟨a0, r0, rfl, h⟩ := h
  replace h := ocons_some h
  obtain ⟨a1, r1, rfl, h⟩ := h
  replace h := ocons_some h
  obtain ⟨a2, r2, rfl, h⟩ := h
  replace h := ocons_some h
  obtain ⟨a3, r3, rfl, h⟩ := h
  replace h := onil_some h
  obtain ⟨rfl, h⟩ := h
  obtain ⟨a0, qh0, h⟩ := obind_some h
  obtain ⟨sa1, qh1, h⟩ := obind_some h
  obtain ⟨b2, qh2, h⟩ := obind_some h
  obtain ⟨sb3, qh3, h⟩ := obind_some h
  rw [argV_eq ok qh0, argV_eq ok qh1, argV_eq ok qh2, argV_eq ok qh3]
  exact call_of (phiE_nat _ _) hs ok mixed Try.func155 (c := spec_KeepsApart_code) (by kernel_rfl) (spec_KeepsApart_lo n) (by kernel_rfl) (by kernel_rfl) (by kernel_rfl) spec_KeepsApart_de ((spec_KeepsApart_tie n a0 sa1 b2 sb3).trans h)
noncomputable def spec_l12Fails_code : Code := match Try.f97.body with | some c => c | none => .skip
def spec_l12Fails_8_sv : List Sv := [.one (.arr 47), .one (.int .i64), .one (.ptr 72 0 0), .one (.ptr 80 0 0), .one (.int .i64)]
def spec_l12Fails_8_so : List So := [.var [.str, .int .i64, .int .i64, .bool, .int .i64, .int .i64, .int .i64, .int .i64, .int .i64], .var [.int .i64, .int .i64, .int .i64]]
def spec_l12Fails_8_emb (c : List SStow × Int × SStow × SSpot) (x : Int) : EVs T spec_l12Fails_8_sv × EOs T spec_l12Fails_8_so := ((c.1, c.2.1, (), (), x, ()), ((c.2.2.1.Box.Name, c.2.2.1.Box.Weight, c.2.2.1.Box.Class, c.2.2.1.Box.Cold, c.2.2.1.Box.From, c.2.2.1.Box.To, c.2.2.1.Spot.Bay, c.2.2.1.Spot.Row, c.2.2.1.Spot.Tier, ()), (c.2.2.2.Bay, c.2.2.2.Row, c.2.2.2.Tier, ()), ()))
def spec_l12Fails_8_prj (y : EVs T spec_l12Fails_8_sv × EOs T spec_l12Fails_8_so) : (List SStow × Int × SStow × SSpot) × Int := ((y.1.1, y.1.2.1, ((⟨(⟨y.2.1.1, y.2.1.2.1, y.2.1.2.2.1, y.2.1.2.2.2.1, y.2.1.2.2.2.2.1, y.2.1.2.2.2.2.2.1⟩ : SBox), (⟨y.2.1.2.2.2.2.2.2.1, y.2.1.2.2.2.2.2.2.2.1, y.2.1.2.2.2.2.2.2.2.2.1⟩ : SSpot)⟩ : SStow) : SStow), ((⟨y.2.2.1.1, y.2.2.1.2.1, y.2.2.1.2.2.1⟩ : SSpot) : SSpot)), (y.1.2.2.2.2.1))
def spec_l12Fails_8_b (n : Nat) {R : Type} (K : Ex → Sm.St T → Option R) (c : List SStow × Int × SStow × SSpot) (x : Int) (J : Int → Option R) : Option R :=
  spec_l12Fails_L8 n (K (.exit 1) (stOf (T := T) [] [] [] [] () ())) (fun (y0 : Bool) => K .ret (stOf (T := T) [8] [] [.one (.bool)] [] (y0, ()) ())) J c.1 c.2.1 x c.2.2.1 c.2.2.2
def spec_l12Fails_8_sp (n : Nat) : LSpec T := mkSpec T ⟨[], [1, 2, 9, 10, 11], [72, 80]⟩ spec_l12Fails_8_sv spec_l12Fails_8_so (List SStow × Int × SStow × SSpot) (Int) spec_l12Fails_8_emb spec_l12Fails_8_prj (spec_l12Fails_8_b n)
noncomputable def spec_l12Fails_8_c : Code := ((loopCodes spec_l12Fails_code)[0]?).getD .skip
def spec_l12Fails_22_sv : List Sv := [.one (.arr 47), .one (.int .i64), .one (.ptr 72 0 0), .one (.ptr 80 0 0), .one (.int .i64)]
def spec_l12Fails_22_so : List So := [.var [.str, .int .i64, .int .i64, .bool, .int .i64, .int .i64, .int .i64, .int .i64, .int .i64], .var [.int .i64, .int .i64, .int .i64]]
def spec_l12Fails_22_emb (c : List SStow × Int × SStow × SSpot) (x : Int) : EVs T spec_l12Fails_22_sv × EOs T spec_l12Fails_22_so := ((c.1, c.2.1, (), (), x, ()), ((c.2.2.1.Box.Name, c.2.2.1.Box.Weight, c.2.2.1.Box.Class, c.2.2.1.Box.Cold, c.2.2.1.Box.From, c.2.2.1.Box.To, c.2.2.1.Spot.Bay, c.2.2.1.Spot.Row, c.2.2.1.Spot.Tier, ()), (c.2.2.2.Bay, c.2.2.2.Row, c.2.2.2.Tier, ()), ()))
def spec_l12Fails_22_prj (y : EVs T spec_l12Fails_22_sv × EOs T spec_l12Fails_22_so) : (List SStow × Int × SStow × SSpot) × Int := ((y.1.1, y.1.2.1, ((⟨(⟨y.2.1.1, y.2.1.2.1, y.2.1.2.2.1, y.2.1.2.2.2.1, y.2.1.2.2.2.2.1, y.2.1.2.2.2.2.2.1⟩ : SBox), (⟨y.2.1.2.2.2.2.2.2.1, y.2.1.2.2.2.2.2.2.2.1, y.2.1.2.2.2.2.2.2.2.2.1⟩ : SSpot)⟩ : SStow) : SStow), ((⟨y.2.2.1.1, y.2.2.1.2.1, y.2.2.1.2.2.1⟩ : SSpot) : SSpot)), (y.1.2.2.2.2.1))
def spec_l12Fails_22_b (n : Nat) {R : Type} (K : Ex → Sm.St T → Option R) (c : List SStow × Int × SStow × SSpot) (x : Int) (J : Int → Option R) : Option R :=
  spec_l12Fails_L22 n (K (.exit 3) (stOf (T := T) [] [] [] [] () ())) (fun (y0 : Bool) => K .ret (stOf (T := T) [8] [] [.one (.bool)] [] (y0, ()) ())) J c.1 c.2.1 x c.2.2.1 c.2.2.2
def spec_l12Fails_22_sp (n : Nat) : LSpec T := mkSpec T ⟨[], [1, 2, 9, 10, 12], [72, 80]⟩ spec_l12Fails_22_sv spec_l12Fails_22_so (List SStow × Int × SStow × SSpot) (Int) spec_l12Fails_22_emb spec_l12Fails_22_prj (spec_l12Fails_22_b n)
noncomputable def spec_l12Fails_22_c : Code := ((loopCodes spec_l12Fails_code)[1]?).getD .skip
def spec_l12Fails_ann : Ann := fun id => bif Nat.beq id 4000008 then some ⟨[], [], []⟩ else bif Nat.beq id 2000008 then some ⟨[], [8], []⟩ else bif Nat.beq id 6000022 then some ⟨[], [], []⟩ else bif Nat.beq id 2000022 then some ⟨[], [8], []⟩ else none
def spec_l12Fails_Ls (n : Nat) : Nat → Option (LSpec T) := fun id => bif Nat.beq id 8 then some (spec_l12Fails_8_sp n) else bif Nat.beq id 22 then some (spec_l12Fails_22_sp n) else none
theorem spec_l12Fails_8_le (n : Nat) : LoopEq (T := T) (Phi n 24) (spec_l12Fails_Ls n) spec_l12Fails_ann n spec_l12Fails_8_c (spec_l12Fails_8_sp n) := ⟨mkSpec_dec (fun y => rfl), fun c x => by kernel_rfl, fun K J c x => by kernel_rfl⟩
theorem spec_l12Fails_22_le (n : Nat) : LoopEq (T := T) (Phi n 24) (spec_l12Fails_Ls n) spec_l12Fails_ann n spec_l12Fails_22_c (spec_l12Fails_22_sp n) := ⟨mkSpec_dec (fun y => rfl), fun c x => by kernel_rfl, fun K J c x => by kernel_rfl⟩
theorem spec_l12Fails_tie (n : Nat) (bays0 : List SHatch) (list1 : List SStow) (i2 : Int) (code3 : Int) : evF (T := T) (Phi n 24) (spec_l12Fails_Ls n) spec_l12Fails_ann n Try.f97 (sg 97) [vA T 33 bays0, vA T 34 list1, vA T 3 i2, vA T 3 code3] spec_l12Fails_dec = spec_l12Fails n bays0 list1 i2 code3 := by kernel_rfl
theorem spec_l12Fails_lo (n : Nat) : LoopsOk (T := T) (Phi n 24) (spec_l12Fails_Ls n) spec_l12Fails_ann n spec_l12Fails_code := loopsOk_all (cs := [spec_l12Fails_8_c, spec_l12Fails_22_c]) (by kernel_rfl) ⟨⟨_, by kernel_rfl, spec_l12Fails_8_le n⟩, ⟨_, by kernel_rfl, spec_l12Fails_22_le n⟩, trivial⟩
theorem spec_l12Fails_ok (n : Nat) : EntOk Try.prog (ents n) (spec_l12Fails_ent n) := by
  intro hs ar y hg h
  replace h : spec_l12Fails_D n ar = some y := h
  unfold spec_l12Fails_D at h
  replace h := ocons_some h
  obtain ⟨a0, r0, rfl, h⟩ := h
  replace h := ocons_some h
  obtain ⟨a1, r1, rfl, h⟩ := h
  replace h := ocons_some h
  obtain ⟨a2, r2, rfl, h⟩ := h
  replace h := ocons_some h
  obtain ⟨a3, r3, rfl, h⟩ := h
  replace h := onil_some h
  obtain ⟨rfl, h⟩ := h
  obtain ⟨bays0, qh0, h⟩ := obind_some h
  obtain ⟨list1, qh1, h⟩ := obind_some h
  obtain ⟨i2, qh2, h⟩ := obind_some h
  obtain ⟨code3, qh3, h⟩ := obind_some h
  rw [argV_eq ok qh0, argV_eq ok qh1, argV_eq ok qh2, argV_eq ok qh3]
  exact call_of (phiE_nat _ _) hs ok mixed Try.func97 (c := spec_l12Fails_code) (by kernel_rfl) (spec_l12Fails_lo n) (by kernel_rfl) (by kernel_rfl) (by kernel_rfl) spec_l12Fails_de ((spec_l12Fails_tie n bays0 list1 i2 code3).trans h)
noncomputable def spec_StowCode_code : Code := match Try.f22.body with | some c => c | none => .skip
def spec_StowCode_4_sv : List Sv := [.one (.arr 121), .one (.arr 47), .one (.int .i64)]
def spec_StowCode_4_so : List So := []
def spec_StowCode_4_emb (c : List SHatch × List SStow) (x : Int) : EVs T spec_StowCode_4_sv × EOs T spec_StowCode_4_so := ((c.1, c.2, x, ()), ())
def spec_StowCode_4_prj (y : EVs T spec_StowCode_4_sv × EOs T spec_StowCode_4_so) : (List SHatch × List SStow) × Int := ((y.1.1, y.1.2.1), (y.1.2.2.1))
def spec_StowCode_4_b (n : Nat) {R : Type} (K : Ex → Sm.St T → Option R) (c : List SHatch × List SStow) (x : Int) (J : Int → Option R) : Option R :=
  spec_StowCode_L4 n (K (.exit 0) (stOf (T := T) [] [] [] [] () ())) (fun (y0 : Int) (y1 : Int) => K .ret (stOf (T := T) [4, 5] [] [.one (.int .i64), .one (.int .i64)] [] (y0, y1, ()) ())) J c.1 c.2 x
def spec_StowCode_4_sp (n : Nat) : LSpec T := mkSpec T ⟨[], [0, 1, 6], []⟩ spec_StowCode_4_sv spec_StowCode_4_so (List SHatch × List SStow) (Int) spec_StowCode_4_emb spec_StowCode_4_prj (spec_StowCode_4_b n)
noncomputable def spec_StowCode_4_c : Code := ((loopCodes spec_StowCode_code)[0]?).getD .skip
def spec_StowCode_7_sv : List Sv := [.one (.arr 121), .one (.arr 47), .one (.int .i64), .one (.int .i64)]
def spec_StowCode_7_so : List So := []
def spec_StowCode_7_emb (c : List SHatch × List SStow × Int) (x : Int) : EVs T spec_StowCode_7_sv × EOs T spec_StowCode_7_so := ((c.1, c.2.1, c.2.2, x, ()), ())
def spec_StowCode_7_prj (y : EVs T spec_StowCode_7_sv × EOs T spec_StowCode_7_so) : (List SHatch × List SStow × Int) × Int := ((y.1.1, y.1.2.1, y.1.2.2.1), (y.1.2.2.2.1))
def spec_StowCode_7_b (n : Nat) {R : Type} (K : Ex → Sm.St T → Option R) (c : List SHatch × List SStow × Int) (x : Int) (J : Int → Option R) : Option R :=
  spec_StowCode_L7 n (K (.exit 2) (stOf (T := T) [0, 1, 6] [] [.one (.arr 121), .one (.arr 47), .one (.int .i64)] [] (c.1, c.2.1, c.2.2, ()) ())) (fun (y1 : Int) => K .ret (stOf (T := T) [4, 5] [] [.one (.int .i64), .one (.int .i64)] [] (c.2.2, y1, ()) ())) J c.1 c.2.1 c.2.2 x
def spec_StowCode_7_sp (n : Nat) : LSpec T := mkSpec T ⟨[], [0, 1, 6, 7], []⟩ spec_StowCode_7_sv spec_StowCode_7_so (List SHatch × List SStow × Int) (Int) spec_StowCode_7_emb spec_StowCode_7_prj (spec_StowCode_7_b n)
noncomputable def spec_StowCode_7_c : Code := ((loopCodes spec_StowCode_code)[1]?).getD .skip
def spec_StowCode_ann : Ann := fun id => bif Nat.beq id 3000004 then some ⟨[], [], []⟩ else bif Nat.beq id 2000004 then some ⟨[], [4, 5], []⟩ else bif Nat.beq id 5000007 then some ⟨[], [0, 1, 6], []⟩ else bif Nat.beq id 2000007 then some ⟨[], [4, 5], []⟩ else none
def spec_StowCode_Ls (n : Nat) : Nat → Option (LSpec T) := fun id => bif Nat.beq id 4 then some (spec_StowCode_4_sp n) else bif Nat.beq id 7 then some (spec_StowCode_7_sp n) else none
theorem spec_StowCode_4_le (n : Nat) : LoopEq (T := T) (Phi n 25) (spec_StowCode_Ls n) spec_StowCode_ann n spec_StowCode_4_c (spec_StowCode_4_sp n) := ⟨mkSpec_dec (fun y => rfl), fun c x => by kernel_rfl, fun K J c x => by kernel_rfl⟩
theorem spec_StowCode_7_le (n : Nat) : LoopEq (T := T) (Phi n 25) (spec_StowCode_Ls n) spec_StowCode_ann n spec_StowCode_7_c (spec_StowCode_7_sp n) := ⟨mkSpec_dec (fun y => rfl), fun c x => by kernel_rfl, fun K J c x => by kernel_rfl⟩
theorem spec_StowCode_tie (n : Nat) (bays0 : List SHatch) (list1 : List SStow) : evF (T := T) (Phi n 25) (spec_StowCode_Ls n) spec_StowCode_ann n Try.f22 (sg 22) [vA T 33 bays0, vA T 34 list1] spec_StowCode_dec = spec_StowCode n bays0 list1 := by kernel_rfl
theorem spec_StowCode_lo (n : Nat) : LoopsOk (T := T) (Phi n 25) (spec_StowCode_Ls n) spec_StowCode_ann n spec_StowCode_code := loopsOk_all (cs := [spec_StowCode_4_c, spec_StowCode_7_c]) (by kernel_rfl) ⟨⟨_, by kernel_rfl, spec_StowCode_4_le n⟩, ⟨_, by kernel_rfl, spec_StowCode_7_le n⟩, trivial⟩
theorem spec_StowCode_ok (n : Nat) : EntOk Try.prog (ents n) (spec_StowCode_ent n) := by
  intro hs ar y hg h
  replace h : spec_StowCode_D n ar = some y := h
  unfold spec_StowCode_D at h
  replace h := ocons_some h
  obtain ⟨a0, r0, rfl, h⟩ := h
  replace h := ocons_some h
  obtain ⟨a1, r1, rfl, h⟩ := h
  replace h := onil_some h
  obtain ⟨rfl, h⟩ := h
  obtain ⟨bays0, qh0, h⟩ := obind_some h
  obtain ⟨list1, qh1, h⟩ := obind_some h
  rw [argV_eq ok qh0, argV_eq ok qh1]
  exact call_of (phiE_nat _ _) hs ok mixed Try.func22 (c := spec_StowCode_code) (by kernel_rfl) (spec_StowCode_lo n) (by kernel_rfl) (by kernel_rfl) (by kernel_rfl) spec_StowCode_de ((spec_StowCode_tie n bays0 list1).trans h)
noncomputable def spec_l12DrawStows_code : Code := match Try.f75.body with | some c => c | none => .skip
def spec_l12DrawStows_3_sv : List Sv := [.one (.ptr 4503599627370496 0 0), .one (.arr 121), .one (.int .i64), .one (.own 3000000 47 false), .one (.int .i64)]
def spec_l12DrawStows_3_so : List So := [.var [.arr 5, .int .i64, .int .i64], .arr 47 false]
def spec_l12DrawStows_3_emb (c : List SHatch × Int) (x : Int × Sl1Cur × List SStow) : EVs T spec_l12DrawStows_3_sv × EOs T spec_l12DrawStows_3_so := (((), c.1, c.2, (), x.1, ()), ((x.2.1.b, x.2.1.i, x.2.1.h, ()), x.2.2, ()))
def spec_l12DrawStows_3_prj (y : EVs T spec_l12DrawStows_3_sv × EOs T spec_l12DrawStows_3_so) : (List SHatch × Int) × (Int × Sl1Cur × List SStow) := ((y.1.2.1, y.1.2.2.1), (y.1.2.2.2.2.1, ((⟨y.2.1.1, y.2.1.2.1, y.2.1.2.2.1⟩ : Sl1Cur) : Sl1Cur), y.2.2.1))
def spec_l12DrawStows_3_b (n : Nat) {R : Type} (K : Ex → Sm.St T → Option R) (c : List SHatch × Int) (x : Int × Sl1Cur × List SStow) (J : (Int × Sl1Cur × List SStow) → Option R) : Option R :=
  spec_l12DrawStows_L3 n (fun (y0 : List SStow) (y1 : Sl1Cur) => K (.exit 0) (stOf (T := T) [7] [3000000, 4503599627370496] [.one (.own 3000000 47 false)] [.arr 47 false, .var [.arr 5, .int .i64, .int .i64]] ((), ()) (y0, (y1.b, y1.i, y1.h, ()), ()))) (fun z0 z1 z2 => J (z0, z1, z2)) c.1 c.2 x.1 x.2.1 x.2.2
def spec_l12DrawStows_3_sp (n : Nat) : LSpec T := mkSpec T ⟨[((.reg 7), 3000000, 47)], [0, 1, 2, 7, 8], [4503599627370496, 3000000]⟩ spec_l12DrawStows_3_sv spec_l12DrawStows_3_so (List SHatch × Int) (Int × Sl1Cur × List SStow) spec_l12DrawStows_3_emb spec_l12DrawStows_3_prj (spec_l12DrawStows_3_b n)
noncomputable def spec_l12DrawStows_3_c : Code := ((loopCodes spec_l12DrawStows_code)[0]?).getD .skip
def spec_l12DrawStows_ann : Ann := fun id => bif Nat.beq id 3000003 then some ⟨[((.reg 7), 3000000, 47)], [7], [3000000, 4503599627370496]⟩ else none
def spec_l12DrawStows_Ls (n : Nat) : Nat → Option (LSpec T) := fun id => bif Nat.beq id 3 then some (spec_l12DrawStows_3_sp n) else none
theorem spec_l12DrawStows_3_le (n : Nat) : LoopEq (T := T) (Phi n 26) (spec_l12DrawStows_Ls n) spec_l12DrawStows_ann n spec_l12DrawStows_3_c (spec_l12DrawStows_3_sp n) := ⟨mkSpec_dec (fun y => rfl), fun c x => by kernel_rfl, fun K J c x => by kernel_rfl⟩
theorem spec_l12DrawStows_tie (n : Nat) (c0 : Sl1Cur) (bays1 : List SHatch) (many2 : Int) : evF (T := T) (Phi n 26) (spec_l12DrawStows_Ls n) spec_l12DrawStows_ann n Try.f75 (sg 75) [.ptr 160 c0, vA T 33 bays1, vA T 3 many2] spec_l12DrawStows_dec = spec_l12DrawStows n c0 bays1 many2 := by kernel_rfl
theorem spec_l12DrawStows_lo (n : Nat) : LoopsOk (T := T) (Phi n 26) (spec_l12DrawStows_Ls n) spec_l12DrawStows_ann n spec_l12DrawStows_code := loopsOk_all (cs := [spec_l12DrawStows_3_c]) (by kernel_rfl) ⟨⟨_, by kernel_rfl, spec_l12DrawStows_3_le n⟩, trivial⟩
theorem spec_l12DrawStows_ok (n : Nat) : EntOk Try.prog (ents n) (spec_l12DrawStows_ent n) := by
  intro hs ar y hg h
  replace h : spec_l12DrawStows_D n ar = some y := h
  unfold spec_l12DrawStows_D at h
  replace h := ocons_some h
  obtain ⟨a0, r0, rfl, h⟩ := h
  replace h := ocons_some h
  obtain ⟨a1, r1, rfl, h⟩ := h
  replace h := ocons_some h
  obtain ⟨a2, r2, rfl, h⟩ := h
  replace h := onil_some h
  obtain ⟨rfl, h⟩ := h
  obtain ⟨c0, qh0, h⟩ := obind_some h
  obtain ⟨bays1, qh1, h⟩ := obind_some h
  obtain ⟨many2, qh2, h⟩ := obind_some h
  rw [argP_eq qh0, argV_eq ok qh1, argV_eq ok qh2]
  exact call_of (phiE_nat _ _) hs ok mixed Try.func75 (c := spec_l12DrawStows_code) (by kernel_rfl) (spec_l12DrawStows_lo n) (by kernel_rfl) (by kernel_rfl) (by kernel_rfl) spec_l12DrawStows_de ((spec_l12DrawStows_tie n c0 bays1 many2).trans h)
noncomputable def spec_l11DrawSpot_code : Code := match Try.f144.body with | some c => c | none => .skip
def spec_l11DrawSpot_ann : Ann := fun id => none
def spec_l11DrawSpot_Ls (n : Nat) : Nat → Option (LSpec T) := fun id => none
theorem spec_l11DrawSpot_tie (n : Nat) (c0 : Sl1Cur) : evF (T := T) (Phi n 27) (spec_l11DrawSpot_Ls n) spec_l11DrawSpot_ann n Try.f144 (sg 144) [.ptr 160 c0] spec_l11DrawSpot_dec = spec_l11DrawSpot n c0 := by kernel_rfl
theorem spec_l11DrawSpot_lo (n : Nat) : LoopsOk (T := T) (Phi n 27) (spec_l11DrawSpot_Ls n) spec_l11DrawSpot_ann n spec_l11DrawSpot_code := loopsOk_all (cs := []) (by kernel_rfl) trivial
theorem spec_l11DrawSpot_ok (n : Nat) : EntOk Try.prog (ents n) (spec_l11DrawSpot_ent n) := by
  intro hs ar y hg h
  replace h : spec_l11DrawSpot_D n ar = some y := h
  unfold spec_l11DrawSpot_D at h
  replace h := ocons_some h
  obtain ⟨a0, r0, rfl, h⟩ := h
  replace h := onil_some h
  obtain ⟨rfl, h⟩ := h
  obtain ⟨c0, qh0, h⟩ := obind_some h
  rw [argP_eq qh0]
  exact call_of (phiE_nat _ _) hs ok mixed Try.func144 (c := spec_l11DrawSpot_code) (by kernel_rfl) (spec_l11DrawSpot_lo n) (by kernel_rfl) (by kernel_rfl) (by kernel_rfl) spec_l11DrawSpot_de ((spec_l11DrawSpot_tie n c0).trans h)
noncomputable def spec_l1Pick_code : Code := match Try.f178.body with | some c => c | none => .skip
def spec_l1Pick_ann : Ann := fun id => none
def spec_l1Pick_Ls (n : Nat) : Nat → Option (LSpec T) := fun id => none
theorem spec_l1Pick_tie (n : Nat) (c0 : Sl1Cur) (list1 : List ByteArray) : evF (T := T) (Phi n 28) (spec_l1Pick_Ls n) spec_l1Pick_ann n Try.f178 (sg 178) [.ptr 160 c0, vA T 186 list1] spec_l1Pick_dec = spec_l1Pick n c0 list1 := by kernel_rfl
theorem spec_l1Pick_lo (n : Nat) : LoopsOk (T := T) (Phi n 28) (spec_l1Pick_Ls n) spec_l1Pick_ann n spec_l1Pick_code := loopsOk_all (cs := []) (by kernel_rfl) trivial
theorem spec_l1Pick_ok (n : Nat) : EntOk Try.prog (ents n) (spec_l1Pick_ent n) := by
  intro hs ar y hg h
  replace h : spec_l1Pick_D n ar = some y := h
  unfold spec_l1Pick_D at h
  replace h := ocons_some h
  obtain ⟨a0, r0, rfl, h⟩ := h
  replace h := ocons_some h
  obtain ⟨a1, r1, rfl, h⟩ := h
  replace h := onil_some h
  obtain ⟨rfl, h⟩ := h
  obtain ⟨c0, qh0, h⟩ := obind_some h
  obtain ⟨list1, qh1, h⟩ := obind_some h
  rw [argP_eq qh0, argV_eq ok qh1]
  exact call_of (phiE_nat _ _) hs ok mixed Try.func178 (c := spec_l1Pick_code) (by kernel_rfl) (spec_l1Pick_lo n) (by kernel_rfl) (by kernel_rfl) (by kernel_rfl) spec_l1Pick_de ((spec_l1Pick_tie n c0 list1).trans h)
noncomputable def spec_l11DrawText_code : Code := match Try.f157.body with | some c => c | none => .skip
def spec_l11DrawText_ann : Ann := fun id => none
def spec_l11DrawText_Ls (n : Nat) : Nat → Option (LSpec T) := fun id => none
theorem spec_l11DrawText_tie (n : Nat) (c0 : Sl1Cur) : evF (T := T) (Phi n 29) (spec_l11DrawText_Ls n) spec_l11DrawText_ann n Try.f157 (sg 157) [.ptr 160 c0] spec_l11DrawText_dec = spec_l11DrawText n c0 := by kernel_rfl
theorem spec_l11DrawText_lo (n : Nat) : LoopsOk (T := T) (Phi n 29) (spec_l11DrawText_Ls n) spec_l11DrawText_ann n spec_l11DrawText_code := loopsOk_all (cs := []) (by kernel_rfl) trivial
theorem spec_l11DrawText_ok (n : Nat) : EntOk Try.prog (ents n) (spec_l11DrawText_ent n) := by
  intro hs ar y hg h
  replace h : spec_l11DrawText_D n ar = some y := h
  unfold spec_l11DrawText_D at h
  replace h := ocons_some h
  obtain ⟨a0, r0, rfl, h⟩ := h
  replace h := onil_some h
  obtain ⟨rfl, h⟩ := h
  obtain ⟨c0, qh0, h⟩ := obind_some h
  rw [argP_eq qh0]
  exact call_of (phiE_nat _ _) hs ok mixed Try.func157 (c := spec_l11DrawText_code) (by kernel_rfl) (spec_l11DrawText_lo n) (by kernel_rfl) (by kernel_rfl) (by kernel_rfl) spec_l11DrawText_de ((spec_l11DrawText_tie n c0).trans h)
noncomputable def spec_l11DrawAny_code : Code := match Try.f101.body with | some c => c | none => .skip
def spec_l11DrawAny_ann : Ann := fun id => none
def spec_l11DrawAny_Ls (n : Nat) : Nat → Option (LSpec T) := fun id => none
theorem spec_l11DrawAny_tie (n : Nat) (c0 : Sl1Cur) : evF (T := T) (Phi n 30) (spec_l11DrawAny_Ls n) spec_l11DrawAny_ann n Try.f101 (sg 101) [.ptr 160 c0] spec_l11DrawAny_dec = spec_l11DrawAny n c0 := by kernel_rfl
theorem spec_l11DrawAny_lo (n : Nat) : LoopsOk (T := T) (Phi n 30) (spec_l11DrawAny_Ls n) spec_l11DrawAny_ann n spec_l11DrawAny_code := loopsOk_all (cs := []) (by kernel_rfl) trivial
theorem spec_l11DrawAny_ok (n : Nat) : EntOk Try.prog (ents n) (spec_l11DrawAny_ent n) := by
  intro hs ar y hg h
  replace h : spec_l11DrawAny_D n ar = some y := h
  unfold spec_l11DrawAny_D at h
  replace h := ocons_some h
  obtain ⟨a0, r0, rfl, h⟩ := h
  replace h := onil_some h
  obtain ⟨rfl, h⟩ := h
  obtain ⟨c0, qh0, h⟩ := obind_some h
  rw [argP_eq qh0]
  exact call_of (phiE_nat _ _) hs ok mixed Try.func101 (c := spec_l11DrawAny_code) (by kernel_rfl) (spec_l11DrawAny_lo n) (by kernel_rfl) (by kernel_rfl) (by kernel_rfl) spec_l11DrawAny_de ((spec_l11DrawAny_tie n c0).trans h)
noncomputable def spec_l12Muddle_code : Code := match Try.f79.body with | some c => c | none => .skip
def spec_l12Muddle_ann : Ann := fun id => none
def spec_l12Muddle_Ls (n : Nat) : Nat → Option (LSpec T) := fun id => none
theorem spec_l12Muddle_tie (n : Nat) (c0 : Sl1Cur) (list1 : List SStow) : evF (T := T) (Phi n 31) (spec_l12Muddle_Ls n) spec_l12Muddle_ann n Try.f79 (sg 79) [.ptr 160 c0, vA T 34 list1] spec_l12Muddle_dec = spec_l12Muddle n c0 list1 := by kernel_rfl
theorem spec_l12Muddle_lo (n : Nat) : LoopsOk (T := T) (Phi n 31) (spec_l12Muddle_Ls n) spec_l12Muddle_ann n spec_l12Muddle_code := loopsOk_all (cs := []) (by kernel_rfl) trivial
theorem spec_l12Muddle_ok (n : Nat) : EntOk Try.prog (ents n) (spec_l12Muddle_ent n) := by
  intro hs ar y hg h
  replace h : spec_l12Muddle_D n ar = some y := h
  unfold spec_l12Muddle_D at h
  replace h := ocons_some h
  obtain ⟨a0, r0, rfl, h⟩ := h
  replace h := ocons_some h
  obtain ⟨a1, r1, rfl, h⟩ := h
  replace h := onil_some h
  obtain ⟨rfl, h⟩ := h
  obtain ⟨c0, qh0, h⟩ := obind_some h
  obtain ⟨list1, qh1, h⟩ := obind_some h
  rw [argP_eq qh0, argV_eq ok qh1]
  exact call_of (phiE_nat _ _) hs ok mixed Try.func79 (c := spec_l12Muddle_code) (by kernel_rfl) (spec_l12Muddle_lo n) (by kernel_rfl) (by kernel_rfl) (by kernel_rfl) spec_l12Muddle_de ((spec_l12Muddle_tie n c0 list1).trans h)
noncomputable def spec_DrawAtPort_code : Code := match Try.f19.body with | some c => c | none => .skip
def spec_DrawAtPort_7_sv : List Sv := [.one (.ptr 136 0 0), .one (.arr 121), .one (.own 3000000 47 false), .one (.int .i64), .one (.own 3000001 47 false), .one (.int .i64)]
def spec_DrawAtPort_7_so : List So := [.var [.arr 5, .int .i64, .int .i64], .arr 47 false, .arr 47 false]
def spec_DrawAtPort_7_emb (c : List SHatch × Int × Sl1Cur) (x : Int × List SStow × List SStow) : EVs T spec_DrawAtPort_7_sv × EOs T spec_DrawAtPort_7_so := (((), c.1, (), c.2.1, (), x.1, ()), ((c.2.2.b, c.2.2.i, c.2.2.h, ()), x.2.1, x.2.2, ()))
def spec_DrawAtPort_7_prj (y : EVs T spec_DrawAtPort_7_sv × EOs T spec_DrawAtPort_7_so) : (List SHatch × Int × Sl1Cur) × (Int × List SStow × List SStow) := ((y.1.2.1, y.1.2.2.2.1, ((⟨y.2.1.1, y.2.1.2.1, y.2.1.2.2.1⟩ : Sl1Cur) : Sl1Cur)), (y.1.2.2.2.2.2.1, y.2.2.1, y.2.2.2.1))
def spec_DrawAtPort_7_b (n : Nat) {R : Type} (K : Ex → Sm.St T → Option R) (c : List SHatch × Int × Sl1Cur) (x : Int × List SStow × List SStow) (J : (Int × List SStow × List SStow) → Option R) : Option R :=
  spec_DrawAtPort_L7 n (fun (y3 : List SStow) (y4 : List SStow) => K (.exit 0) (stOf (T := T) [6, 7, 8, 9, 10] [136, 3000000, 3000001] [.one (.ptr 136 0 0), .one (.arr 121), .one (.own 3000000 47 false), .one (.int .i64), .one (.own 3000001 47 false)] [.var [.arr 5, .int .i64, .int .i64], .arr 47 false, .arr 47 false] ((), c.1, (), c.2.1, (), ()) ((c.2.2.b, c.2.2.i, c.2.2.h, ()), y3, y4, ()))) (fun z0 z1 z2 => J (z0, z1, z2)) c.1 c.2.1 x.1 c.2.2 x.2.1 x.2.2
def spec_DrawAtPort_7_sp (n : Nat) : LSpec T := mkSpec T ⟨[((.reg 8), 3000000, 47), ((.reg 10), 3000001, 47)], [6, 7, 8, 9, 10, 11], [136, 3000000, 3000001]⟩ spec_DrawAtPort_7_sv spec_DrawAtPort_7_so (List SHatch × Int × Sl1Cur) (Int × List SStow × List SStow) spec_DrawAtPort_7_emb spec_DrawAtPort_7_prj (spec_DrawAtPort_7_b n)
noncomputable def spec_DrawAtPort_7_c : Code := ((loopCodes spec_DrawAtPort_code)[0]?).getD .skip
def spec_DrawAtPort_18_sv : List Sv := [.one (.ptr 136 0 0), .one (.arr 121), .one (.own 3000000 47 false), .one (.int .i64), .one (.own 3000001 47 false), .one (.own 3000002 47 false), .one (.own 3000003 47 false), .one (.int .i64)]
def spec_DrawAtPort_18_so : List So := [.var [.arr 5, .int .i64, .int .i64], .arr 47 false, .arr 47 false, .arr 47 false, .arr 47 false]
def spec_DrawAtPort_18_emb (c : List SHatch × Int × List SStow × List SStow × List SStow) (x : Int × Sl1Cur × List SStow) : EVs T spec_DrawAtPort_18_sv × EOs T spec_DrawAtPort_18_so := (((), c.1, (), c.2.1, (), (), (), x.1, ()), ((x.2.1.b, x.2.1.i, x.2.1.h, ()), c.2.2.1, c.2.2.2.1, x.2.2, c.2.2.2.2, ()))
def spec_DrawAtPort_18_prj (y : EVs T spec_DrawAtPort_18_sv × EOs T spec_DrawAtPort_18_so) : (List SHatch × Int × List SStow × List SStow × List SStow) × (Int × Sl1Cur × List SStow) := ((y.1.2.1, y.1.2.2.2.1, y.2.2.1, y.2.2.2.1, y.2.2.2.2.2.1), (y.1.2.2.2.2.2.2.2.1, ((⟨y.2.1.1, y.2.1.2.1, y.2.1.2.2.1⟩ : Sl1Cur) : Sl1Cur), y.2.2.2.2.1))
def spec_DrawAtPort_18_b (n : Nat) {R : Type} (K : Ex → Sm.St T → Option R) (c : List SHatch × Int × List SStow × List SStow × List SStow) (x : Int × Sl1Cur × List SStow) (J : (Int × Sl1Cur × List SStow) → Option R) : Option R :=
  spec_DrawAtPort_L18 n (fun (y2 : Sl1Cur) (y4 : List SStow) => K (.exit 2) (stOf (T := T) [6, 7, 8, 9, 12] [136, 3000000, 3000002] [.one (.ptr 136 0 0), .one (.arr 121), .one (.own 3000000 47 false), .one (.int .i64), .one (.own 3000002 47 false)] [.var [.arr 5, .int .i64, .int .i64], .arr 47 false, .arr 47 false] ((), c.1, (), c.2.1, (), ()) ((y2.b, y2.i, y2.h, ()), c.2.2.1, y4, ()))) (fun z0 z1 z2 => J (z0, z1, z2)) c.1 c.2.1 x.1 x.2.1 c.2.2.1 c.2.2.2.1 x.2.2 c.2.2.2.2
def spec_DrawAtPort_18_sp (n : Nat) : LSpec T := mkSpec T ⟨[((.reg 8), 3000000, 47), ((.reg 10), 3000001, 47), ((.reg 12), 3000002, 47), ((.reg 13), 3000003, 47)], [6, 7, 8, 9, 10, 12, 13, 14], [136, 3000000, 3000001, 3000002, 3000003]⟩ spec_DrawAtPort_18_sv spec_DrawAtPort_18_so (List SHatch × Int × List SStow × List SStow × List SStow) (Int × Sl1Cur × List SStow) spec_DrawAtPort_18_emb spec_DrawAtPort_18_prj (spec_DrawAtPort_18_b n)
noncomputable def spec_DrawAtPort_18_c : Code := ((loopCodes spec_DrawAtPort_code)[1]?).getD .skip
def spec_DrawAtPort_ann : Ann := fun id => bif Nat.beq id 3000007 then some ⟨[((.reg 8), 3000000, 47), ((.reg 10), 3000001, 47)], [6, 7, 8, 9, 10], [136, 3000000, 3000001]⟩ else bif Nat.beq id 5000018 then some ⟨[((.reg 8), 3000000, 47), ((.reg 12), 3000002, 47)], [6, 7, 8, 9, 12], [136, 3000000, 3000002]⟩ else bif Nat.beq id 3 then some ⟨[((.reg 7), 121, 999999)], [0, 2, 3, 4, 5, 6, 7, 16, 17, 18, 19], [136]⟩ else none
def spec_DrawAtPort_Ls (n : Nat) : Nat → Option (LSpec T) := fun id => bif Nat.beq id 7 then some (spec_DrawAtPort_7_sp n) else bif Nat.beq id 18 then some (spec_DrawAtPort_18_sp n) else none
theorem spec_DrawAtPort_7_le (n : Nat) : LoopEq (T := T) (Phi n 32) (spec_DrawAtPort_Ls n) spec_DrawAtPort_ann n spec_DrawAtPort_7_c (spec_DrawAtPort_7_sp n) := ⟨mkSpec_dec (fun y => rfl), fun c x => by kernel_rfl, fun K J c x => by kernel_rfl⟩
theorem spec_DrawAtPort_18_le (n : Nat) : LoopEq (T := T) (Phi n 32) (spec_DrawAtPort_Ls n) spec_DrawAtPort_ann n spec_DrawAtPort_18_c (spec_DrawAtPort_18_sp n) := ⟨mkSpec_dec (fun y => rfl), fun c x => by kernel_rfl, fun K J c x => by kernel_rfl⟩
theorem spec_DrawAtPort_tie (n : Nat) (code0 : List Int) : evF (T := T) (Phi n 32) (spec_DrawAtPort_Ls n) spec_DrawAtPort_ann n Try.f19 (sg 19) [vA T 22 code0] spec_DrawAtPort_dec = spec_DrawAtPort n code0 := by kernel_rfl
theorem spec_DrawAtPort_lo (n : Nat) : LoopsOk (T := T) (Phi n 32) (spec_DrawAtPort_Ls n) spec_DrawAtPort_ann n spec_DrawAtPort_code := loopsOk_all (cs := [spec_DrawAtPort_7_c, spec_DrawAtPort_18_c]) (by kernel_rfl) ⟨⟨_, by kernel_rfl, spec_DrawAtPort_7_le n⟩, ⟨_, by kernel_rfl, spec_DrawAtPort_18_le n⟩, trivial⟩
theorem spec_DrawAtPort_ok (n : Nat) : EntOk Try.prog (ents n) (spec_DrawAtPort_ent n) := by
  intro hs ar y hg h
  replace h : spec_DrawAtPort_D n ar = some y := h
  unfold spec_DrawAtPort_D at h
  replace h := ocons_some h
  obtain ⟨a0, r0, rfl, h⟩ := h
  replace h := onil_some h
  obtain ⟨rfl, h⟩ := h
  obtain ⟨code0, qh0, h⟩ := obind_some h
  rw [argV_eq ok qh0]
  exact call_of (phiE_nat _ _) hs ok mixed Try.func19 (c := spec_DrawAtPort_code) (by kernel_rfl) (spec_DrawAtPort_lo n) (by kernel_rfl) (by kernel_rfl) (by kernel_rfl) spec_DrawAtPort_de ((spec_DrawAtPort_tie n code0).trans h)
noncomputable def impl_own_impl_Stow_code : Code := match Try.f80.body with | some c => c | none => .skip
def impl_own_impl_Stow_ann : Ann := fun id => none
def impl_own_impl_Stow_Ls (n : Nat) : Nat → Option (LSpec T) := fun id => none
theorem impl_own_impl_Stow_tie (n : Nat) (l0 : List SStow) : evF (T := T) (Phi n 33) (impl_own_impl_Stow_Ls n) impl_own_impl_Stow_ann n Try.f80 (sg 80) [vA T 34 l0] impl_own_impl_Stow_dec = impl_own_impl_Stow n l0 := by kernel_rfl
theorem impl_own_impl_Stow_lo (n : Nat) : LoopsOk (T := T) (Phi n 33) (impl_own_impl_Stow_Ls n) impl_own_impl_Stow_ann n impl_own_impl_Stow_code := loopsOk_all (cs := []) (by kernel_rfl) trivial
theorem impl_own_impl_Stow_ok (n : Nat) : EntOk Try.prog (ents n) (impl_own_impl_Stow_ent n) := by
  intro hs ar y hg h
  replace h : impl_own_impl_Stow_D n ar = some y := h
  unfold impl_own_impl_Stow_D at h
  replace h := ocons_some h
  obtain ⟨a0, r0, rfl, h⟩ := h
  replace h := onil_some h
  obtain ⟨rfl, h⟩ := h
  obtain ⟨l0, qh0, h⟩ := obind_some h
  rw [argV_eq ok qh0]
  exact call_of (phiE_nat _ _) hs ok mixed Try.func80 (c := impl_own_impl_Stow_code) (by kernel_rfl) (impl_own_impl_Stow_lo n) (by kernel_rfl) (by kernel_rfl) (by kernel_rfl) impl_own_impl_Stow_de ((impl_own_impl_Stow_tie n l0).trans h)
noncomputable def impl_in_code : Code := match Try.f68.body with | some c => c | none => .skip
def impl_in_ann : Ann := fun id => none
def impl_in_Ls (n : Nat) : Nat → Option (LSpec T) := fun id => none
theorem impl_in_tie (n : Nat) (n0 : Int) (least1 : Int) (most2 : Int) : evF (T := T) (Phi n 34) (impl_in_Ls n) impl_in_ann n Try.f68 (sg 68) [vA T 3 n0, vA T 3 least1, vA T 3 most2] impl_in_dec = impl_in n n0 least1 most2 := by kernel_rfl
theorem impl_in_lo (n : Nat) : LoopsOk (T := T) (Phi n 34) (impl_in_Ls n) impl_in_ann n impl_in_code := loopsOk_all (cs := []) (by kernel_rfl) trivial
theorem impl_in_ok (n : Nat) : EntOk Try.prog (ents n) (impl_in_ent n) := by
  intro hs ar y hg h
  replace h : impl_in_D n ar = some y := h
  unfold impl_in_D at h
  replace h := ocons_some h
  obtain ⟨a0, r0, rfl, h⟩ := h
  replace h := ocons_some h
  obtain ⟨a1, r1, rfl, h⟩ := h
  replace h := ocons_some h
  obtain ⟨a2, r2, rfl, h⟩ := h
  replace h := onil_some h
  obtain ⟨rfl, h⟩ := h
  obtain ⟨n0, qh0, h⟩ := obind_some h
  obtain ⟨least1, qh1, h⟩ := obind_some h
  obtain ⟨most2, qh2, h⟩ := obind_some h
  rw [argV_eq ok qh0, argV_eq ok qh1, argV_eq ok qh2]
  exact call_of (phiE_nat _ _) hs ok mixed Try.func68 (c := impl_in_code) (by kernel_rfl) (impl_in_lo n) (by kernel_rfl) (by kernel_rfl) (by kernel_rfl) impl_in_de ((impl_in_tie n n0 least1 most2).trans h)
noncomputable def impl_HatchesOk_1_code : Code := match Try.f146.body with | some c => c | none => .skip
def impl_HatchesOk_1_ann : Ann := fun id => none
def impl_HatchesOk_1_Ls (n : Nat) : Nat → Option (LSpec T) := fun id => none
theorem impl_HatchesOk_1_tie (n : Nat) (h0 : SHatch) : evF (T := T) (Phi n 35) (impl_HatchesOk_1_Ls n) impl_HatchesOk_1_ann n Try.f146 (sg 146) [vA T 121 h0] impl_HatchesOk_1_dec = impl_HatchesOk_1 n h0 := by kernel_rfl
theorem impl_HatchesOk_1_lo (n : Nat) : LoopsOk (T := T) (Phi n 35) (impl_HatchesOk_1_Ls n) impl_HatchesOk_1_ann n impl_HatchesOk_1_code := loopsOk_all (cs := []) (by kernel_rfl) trivial
theorem impl_HatchesOk_1_ok (n : Nat) : EntOk Try.prog (ents n) (impl_HatchesOk_1_ent n) := by
  intro hs ar y hg h
  replace h : impl_HatchesOk_1_D n ar = some y := h
  unfold impl_HatchesOk_1_D at h
  replace h := ocons_some h
  obtain ⟨a0, r0, rfl, h⟩ := h
  replace h := onil_some h
  obtain ⟨rfl, h⟩ := h
  obtain ⟨h0, qh0, h⟩ := obind_some h
  rw [argV_eq ok qh0]
  exact call_of (phiE_nat _ _) hs ok mixed Try.func146 (c := impl_HatchesOk_1_code) (by kernel_rfl) (impl_HatchesOk_1_lo n) (by kernel_rfl) (by kernel_rfl) (by kernel_rfl) impl_HatchesOk_1_de ((impl_HatchesOk_1_tie n h0).trans h)
noncomputable def slices_IndexFunc_impl_Hatch_impl_Hatch__impl_HatchesOk_1_code : Code := match Try.f171.body with | some c => c | none => .skip
def slices_IndexFunc_impl_Hatch_impl_Hatch__impl_HatchesOk_1_2_sv : List Sv := [.one (.arr 121), .one (.fn 146 []), .one (.int .i64), .one (.int .i64)]
def slices_IndexFunc_impl_Hatch_impl_Hatch__impl_HatchesOk_1_2_so : List So := []
def slices_IndexFunc_impl_Hatch_impl_Hatch__impl_HatchesOk_1_2_emb (c : List SHatch × Int) (x : Int) : EVs T slices_IndexFunc_impl_Hatch_impl_Hatch__impl_HatchesOk_1_2_sv × EOs T slices_IndexFunc_impl_Hatch_impl_Hatch__impl_HatchesOk_1_2_so := ((c.1, (), c.2, x, ()), ())
def slices_IndexFunc_impl_Hatch_impl_Hatch__impl_HatchesOk_1_2_prj (y : EVs T slices_IndexFunc_impl_Hatch_impl_Hatch__impl_HatchesOk_1_2_sv × EOs T slices_IndexFunc_impl_Hatch_impl_Hatch__impl_HatchesOk_1_2_so) : (List SHatch × Int) × Int := ((y.1.1, y.1.2.2.1), (y.1.2.2.2.1))
def slices_IndexFunc_impl_Hatch_impl_Hatch__impl_HatchesOk_1_2_b (n : Nat) {R : Type} (K : Ex → Sm.St T → Option R) (c : List SHatch × Int) (x : Int) (J : Int → Option R) : Option R :=
  slices_IndexFunc_impl_Hatch_impl_Hatch__impl_HatchesOk_1_L2 n (K (.exit 0) (stOf (T := T) [] [] [] [] () ())) (fun (y0 : Int) => K .ret (stOf (T := T) [4] [] [.one (.int .i64)] [] (y0, ()) ())) J c.1 c.2 x
def slices_IndexFunc_impl_Hatch_impl_Hatch__impl_HatchesOk_1_2_sp (n : Nat) : LSpec T := mkSpec T ⟨[], [0, 1, 7, 8], []⟩ slices_IndexFunc_impl_Hatch_impl_Hatch__impl_HatchesOk_1_2_sv slices_IndexFunc_impl_Hatch_impl_Hatch__impl_HatchesOk_1_2_so (List SHatch × Int) (Int) slices_IndexFunc_impl_Hatch_impl_Hatch__impl_HatchesOk_1_2_emb slices_IndexFunc_impl_Hatch_impl_Hatch__impl_HatchesOk_1_2_prj (slices_IndexFunc_impl_Hatch_impl_Hatch__impl_HatchesOk_1_2_b n)
noncomputable def slices_IndexFunc_impl_Hatch_impl_Hatch__impl_HatchesOk_1_2_c : Code := ((loopCodes slices_IndexFunc_impl_Hatch_impl_Hatch__impl_HatchesOk_1_code)[0]?).getD .skip
def slices_IndexFunc_impl_Hatch_impl_Hatch__impl_HatchesOk_1_ann : Ann := fun id => bif Nat.beq id 3000002 then some ⟨[], [], []⟩ else bif Nat.beq id 2000002 then some ⟨[], [4], []⟩ else none
def slices_IndexFunc_impl_Hatch_impl_Hatch__impl_HatchesOk_1_Ls (n : Nat) : Nat → Option (LSpec T) := fun id => bif Nat.beq id 2 then some (slices_IndexFunc_impl_Hatch_impl_Hatch__impl_HatchesOk_1_2_sp n) else none
theorem slices_IndexFunc_impl_Hatch_impl_Hatch__impl_HatchesOk_1_2_le (n : Nat) : LoopEq (T := T) (Phi n 36) (slices_IndexFunc_impl_Hatch_impl_Hatch__impl_HatchesOk_1_Ls n) slices_IndexFunc_impl_Hatch_impl_Hatch__impl_HatchesOk_1_ann n slices_IndexFunc_impl_Hatch_impl_Hatch__impl_HatchesOk_1_2_c (slices_IndexFunc_impl_Hatch_impl_Hatch__impl_HatchesOk_1_2_sp n) := ⟨mkSpec_dec (fun y => rfl), fun c x => by kernel_rfl, fun K J c x => by kernel_rfl⟩
theorem slices_IndexFunc_impl_Hatch_impl_Hatch__impl_HatchesOk_1_tie (n : Nat) (s0 : List SHatch) : evF (T := T) (Phi n 36) (slices_IndexFunc_impl_Hatch_impl_Hatch__impl_HatchesOk_1_Ls n) slices_IndexFunc_impl_Hatch_impl_Hatch__impl_HatchesOk_1_ann n Try.f171 (sg 171) [vA T 33 s0, .fn 146 []] slices_IndexFunc_impl_Hatch_impl_Hatch__impl_HatchesOk_1_dec = slices_IndexFunc_impl_Hatch_impl_Hatch__impl_HatchesOk_1 n s0 := by kernel_rfl
theorem slices_IndexFunc_impl_Hatch_impl_Hatch__impl_HatchesOk_1_lo (n : Nat) : LoopsOk (T := T) (Phi n 36) (slices_IndexFunc_impl_Hatch_impl_Hatch__impl_HatchesOk_1_Ls n) slices_IndexFunc_impl_Hatch_impl_Hatch__impl_HatchesOk_1_ann n slices_IndexFunc_impl_Hatch_impl_Hatch__impl_HatchesOk_1_code := loopsOk_all (cs := [slices_IndexFunc_impl_Hatch_impl_Hatch__impl_HatchesOk_1_2_c]) (by kernel_rfl) ⟨⟨_, by kernel_rfl, slices_IndexFunc_impl_Hatch_impl_Hatch__impl_HatchesOk_1_2_le n⟩, trivial⟩
theorem slices_IndexFunc_impl_Hatch_impl_Hatch__impl_HatchesOk_1_ok (n : Nat) : EntOk Try.prog (ents n) (slices_IndexFunc_impl_Hatch_impl_Hatch__impl_HatchesOk_1_ent n) := by
  intro hs ar y hg h
  replace h : slices_IndexFunc_impl_Hatch_impl_Hatch__impl_HatchesOk_1_D n ar = some y := h
  unfold slices_IndexFunc_impl_Hatch_impl_Hatch__impl_HatchesOk_1_D at h
  split at h
  · obtain ⟨s0, qh0, h⟩ := obind_some h
    rw [argV_eq ok qh0] at hg ⊢
    cases (show [_] = [146] from natsEq_eq hg)
    exact call_of (phiE_nat _ _) hs ok mixed Try.func171 (c := slices_IndexFunc_impl_Hatch_impl_Hatch__impl_HatchesOk_1_code) (by kernel_rfl) (slices_IndexFunc_impl_Hatch_impl_Hatch__impl_HatchesOk_1_lo n) (by kernel_rfl) (by kernel_rfl) (by kernel_rfl) slices_IndexFunc_impl_Hatch_impl_Hatch__impl_HatchesOk_1_de ((slices_IndexFunc_impl_Hatch_impl_Hatch__impl_HatchesOk_1_tie n s0).trans h)
  · cases h
noncomputable def slices_ContainsFunc_impl_Hatch_impl_Hatch__impl_HatchesOk_1_code : Code := match Try.f145.body with | some c => c | none => .skip
def slices_ContainsFunc_impl_Hatch_impl_Hatch__impl_HatchesOk_1_ann : Ann := fun id => none
def slices_ContainsFunc_impl_Hatch_impl_Hatch__impl_HatchesOk_1_Ls (n : Nat) : Nat → Option (LSpec T) := fun id => none
theorem slices_ContainsFunc_impl_Hatch_impl_Hatch__impl_HatchesOk_1_tie (n : Nat) (s0 : List SHatch) : evF (T := T) (Phi n 37) (slices_ContainsFunc_impl_Hatch_impl_Hatch__impl_HatchesOk_1_Ls n) slices_ContainsFunc_impl_Hatch_impl_Hatch__impl_HatchesOk_1_ann n Try.f145 (sg 145) [vA T 33 s0, .fn 146 []] slices_ContainsFunc_impl_Hatch_impl_Hatch__impl_HatchesOk_1_dec = slices_ContainsFunc_impl_Hatch_impl_Hatch__impl_HatchesOk_1 n s0 := by kernel_rfl
theorem slices_ContainsFunc_impl_Hatch_impl_Hatch__impl_HatchesOk_1_lo (n : Nat) : LoopsOk (T := T) (Phi n 37) (slices_ContainsFunc_impl_Hatch_impl_Hatch__impl_HatchesOk_1_Ls n) slices_ContainsFunc_impl_Hatch_impl_Hatch__impl_HatchesOk_1_ann n slices_ContainsFunc_impl_Hatch_impl_Hatch__impl_HatchesOk_1_code := loopsOk_all (cs := []) (by kernel_rfl) trivial
theorem slices_ContainsFunc_impl_Hatch_impl_Hatch__impl_HatchesOk_1_ok (n : Nat) : EntOk Try.prog (ents n) (slices_ContainsFunc_impl_Hatch_impl_Hatch__impl_HatchesOk_1_ent n) := by
  intro hs ar y hg h
  replace h : slices_ContainsFunc_impl_Hatch_impl_Hatch__impl_HatchesOk_1_D n ar = some y := h
  unfold slices_ContainsFunc_impl_Hatch_impl_Hatch__impl_HatchesOk_1_D at h
  split at h
  · obtain ⟨s0, qh0, h⟩ := obind_some h
    rw [argV_eq ok qh0] at hg ⊢
    cases (show [_] = [146] from natsEq_eq hg)
    exact call_of (phiE_nat _ _) hs ok mixed Try.func145 (c := slices_ContainsFunc_impl_Hatch_impl_Hatch__impl_HatchesOk_1_code) (by kernel_rfl) (slices_ContainsFunc_impl_Hatch_impl_Hatch__impl_HatchesOk_1_lo n) (by kernel_rfl) (by kernel_rfl) (by kernel_rfl) slices_ContainsFunc_impl_Hatch_impl_Hatch__impl_HatchesOk_1_de ((slices_ContainsFunc_impl_Hatch_impl_Hatch__impl_HatchesOk_1_tie n s0).trans h)
  · cases h
noncomputable def impl_HatchesOk_code : Code := match Try.f82.body with | some c => c | none => .skip
def impl_HatchesOk_ann : Ann := fun id => none
def impl_HatchesOk_Ls (n : Nat) : Nat → Option (LSpec T) := fun id => none
theorem impl_HatchesOk_tie (n : Nat) (bays0 : List SHatch) : evF (T := T) (Phi n 38) (impl_HatchesOk_Ls n) impl_HatchesOk_ann n Try.f82 (sg 82) [vA T 33 bays0] impl_HatchesOk_dec = impl_HatchesOk n bays0 := by kernel_rfl
theorem impl_HatchesOk_lo (n : Nat) : LoopsOk (T := T) (Phi n 38) (impl_HatchesOk_Ls n) impl_HatchesOk_ann n impl_HatchesOk_code := loopsOk_all (cs := []) (by kernel_rfl) trivial
theorem impl_HatchesOk_ok (n : Nat) : EntOk Try.prog (ents n) (impl_HatchesOk_ent n) := by
  intro hs ar y hg h
  replace h : impl_HatchesOk_D n ar = some y := h
  unfold impl_HatchesOk_D at h
  replace h := ocons_some h
  obtain ⟨a0, r0, rfl, h⟩ := h
  replace h := onil_some h
  obtain ⟨rfl, h⟩ := h
  obtain ⟨bays0, qh0, h⟩ := obind_some h
  rw [argV_eq ok qh0]
  exact call_of (phiE_nat _ _) hs ok mixed Try.func82 (c := impl_HatchesOk_code) (by kernel_rfl) (impl_HatchesOk_lo n) (by kernel_rfl) (by kernel_rfl) (by kernel_rfl) impl_HatchesOk_de ((impl_HatchesOk_tie n bays0).trans h)
noncomputable def impl_valueOf_code : Code := match Try.f180.body with | some c => c | none => .skip
def impl_valueOf_3_sv : List Sv := [.one (.int .u8), .one (.int .i64), .one (.int .u8)]
def impl_valueOf_3_so : List So := []
def impl_valueOf_3_emb (c : Int) (x : Int × Int) : EVs T impl_valueOf_3_sv × EOs T impl_valueOf_3_so := ((c, x.1, x.2, ()), ())
def impl_valueOf_3_prj (y : EVs T impl_valueOf_3_sv × EOs T impl_valueOf_3_so) : Int × (Int × Int) := ((y.1.1), (y.1.2.1, y.1.2.2.1))
def impl_valueOf_3_b (n : Nat) {R : Type} (K : Ex → Sm.St T → Option R) (c : Int) (x : Int × Int) (J : (Int × Int) → Option R) : Option R :=
  impl_valueOf_L3 n (fun (y0 : Int) => K (.exit 0) (stOf (T := T) [3] [] [.one (.int .i64)] [] (y0, ()) ())) (fun z0 z1 => J (z0, z1)) c x.1 x.2
def impl_valueOf_3_sp (n : Nat) : LSpec T := mkSpec T ⟨[], [0, 3, 4], []⟩ impl_valueOf_3_sv impl_valueOf_3_so (Int) (Int × Int) impl_valueOf_3_emb impl_valueOf_3_prj (impl_valueOf_3_b n)
noncomputable def impl_valueOf_3_c : Code := ((loopCodes impl_valueOf_code)[0]?).getD .skip
def impl_valueOf_ann : Ann := fun id => bif Nat.beq id 3000003 then some ⟨[], [3], []⟩ else none
def impl_valueOf_Ls (n : Nat) : Nat → Option (LSpec T) := fun id => bif Nat.beq id 3 then some (impl_valueOf_3_sp n) else none
theorem impl_valueOf_3_le (n : Nat) : LoopEq (T := T) (Phi n 39) (impl_valueOf_Ls n) impl_valueOf_ann n impl_valueOf_3_c (impl_valueOf_3_sp n) := ⟨mkSpec_dec (fun y => rfl), fun c x => by kernel_rfl, fun K J c x => by kernel_rfl⟩
theorem impl_valueOf_tie (n : Nat) (c0 : Int) : evF (T := T) (Phi n 39) (impl_valueOf_Ls n) impl_valueOf_ann n Try.f180 (sg 180) [vA T 5 c0] impl_valueOf_dec = impl_valueOf n c0 := by kernel_rfl
theorem impl_valueOf_lo (n : Nat) : LoopsOk (T := T) (Phi n 39) (impl_valueOf_Ls n) impl_valueOf_ann n impl_valueOf_code := loopsOk_all (cs := [impl_valueOf_3_c]) (by kernel_rfl) ⟨⟨_, by kernel_rfl, impl_valueOf_3_le n⟩, trivial⟩
theorem impl_valueOf_ok (n : Nat) : EntOk Try.prog (ents n) (impl_valueOf_ent n) := by
  intro hs ar y hg h
  replace h : impl_valueOf_D n ar = some y := h
  unfold impl_valueOf_D at h
  replace h := ocons_some h
  obtain ⟨a0, r0, rfl, h⟩ := h
  replace h := onil_some h
  obtain ⟨rfl, h⟩ := h
  obtain ⟨c0, qh0, h⟩ := obind_some h
  rw [argV_eq ok qh0]
  exact call_of (phiE_nat _ _) hs ok mixed Try.func180 (c := impl_valueOf_code) (by kernel_rfl) (impl_valueOf_lo n) (by kernel_rfl) (by kernel_rfl) (by kernel_rfl) impl_valueOf_de ((impl_valueOf_tie n c0).trans h)
noncomputable def impl_CheckDigit_code : Code := match Try.f169.body with | some c => c | none => .skip
def impl_CheckDigit_5_sv : List Sv := [.one (.str), .one (.int .i64), .one (.int .i64)]
def impl_CheckDigit_5_so : List So := []
def impl_CheckDigit_5_emb (c : ByteArray) (x : Int × Int) : EVs T impl_CheckDigit_5_sv × EOs T impl_CheckDigit_5_so := ((c, x.1, x.2, ()), ())
def impl_CheckDigit_5_prj (y : EVs T impl_CheckDigit_5_sv × EOs T impl_CheckDigit_5_so) : ByteArray × (Int × Int) := ((y.1.1), (y.1.2.1, y.1.2.2.1))
def impl_CheckDigit_5_b (n : Nat) {R : Type} (K : Ex → Sm.St T → Option R) (c : ByteArray) (x : Int × Int) (J : (Int × Int) → Option R) : Option R :=
  impl_CheckDigit_L5 n (fun (y0 : Int) => K (.exit 0) (stOf (T := T) [3] [] [.one (.int .i64)] [] (y0, ()) ())) (fun (y0 : Int) => K .ret (stOf (T := T) [2] [] [.one (.int .i64)] [] (y0, ()) ())) (fun z0 z1 => J (z0, z1)) c x.1 x.2
def impl_CheckDigit_5_sp (n : Nat) : LSpec T := mkSpec T ⟨[], [0, 3, 10], []⟩ impl_CheckDigit_5_sv impl_CheckDigit_5_so (ByteArray) (Int × Int) impl_CheckDigit_5_emb impl_CheckDigit_5_prj (impl_CheckDigit_5_b n)
noncomputable def impl_CheckDigit_5_c : Code := ((loopCodes impl_CheckDigit_code)[0]?).getD .skip
def impl_CheckDigit_ann : Ann := fun id => bif Nat.beq id 3000005 then some ⟨[], [3], []⟩ else bif Nat.beq id 2000005 then some ⟨[], [2], []⟩ else none
def impl_CheckDigit_Ls (n : Nat) : Nat → Option (LSpec T) := fun id => bif Nat.beq id 5 then some (impl_CheckDigit_5_sp n) else none
theorem impl_CheckDigit_5_le (n : Nat) : LoopEq (T := T) (Phi n 40) (impl_CheckDigit_Ls n) impl_CheckDigit_ann n impl_CheckDigit_5_c (impl_CheckDigit_5_sp n) := ⟨mkSpec_dec (fun y => rfl), fun c x => by kernel_rfl, fun K J c x => by kernel_rfl⟩
theorem impl_CheckDigit_tie (n : Nat) (name0 : ByteArray) : evF (T := T) (Phi n 40) (impl_CheckDigit_Ls n) impl_CheckDigit_ann n Try.f169 (sg 169) [vA T 9 name0] impl_CheckDigit_dec = impl_CheckDigit n name0 := by kernel_rfl
theorem impl_CheckDigit_lo (n : Nat) : LoopsOk (T := T) (Phi n 40) (impl_CheckDigit_Ls n) impl_CheckDigit_ann n impl_CheckDigit_code := loopsOk_all (cs := [impl_CheckDigit_5_c]) (by kernel_rfl) ⟨⟨_, by kernel_rfl, impl_CheckDigit_5_le n⟩, trivial⟩
theorem impl_CheckDigit_ok (n : Nat) : EntOk Try.prog (ents n) (impl_CheckDigit_ent n) := by
  intro hs ar y hg h
  replace h : impl_CheckDigit_D n ar = some y := h
  unfold impl_CheckDigit_D at h
  replace h := ocons_some h
  obtain ⟨a0, r0, rfl, h⟩ := h
  replace h := onil_some h
  obtain ⟨rfl, h⟩ := h
  obtain ⟨name0, qh0, h⟩ := obind_some h
  rw [argV_eq ok qh0]
  exact call_of (phiE_nat _ _) hs ok mixed Try.func169 (c := impl_CheckDigit_code) (by kernel_rfl) (impl_CheckDigit_lo n) (by kernel_rfl) (by kernel_rfl) (by kernel_rfl) impl_CheckDigit_de ((impl_CheckDigit_tie n name0).trans h)
noncomputable def impl_BoxName_code : Code := match Try.f139.body with | some c => c | none => .skip
def impl_BoxName_ann : Ann := fun id => none
def impl_BoxName_Ls (n : Nat) : Nat → Option (LSpec T) := fun id => none
theorem impl_BoxName_tie (n : Nat) (text0 : ByteArray) : evF (T := T) (Phi n 41) (impl_BoxName_Ls n) impl_BoxName_ann n Try.f139 (sg 139) [vA T 9 text0] impl_BoxName_dec = impl_BoxName n text0 := by kernel_rfl
theorem impl_BoxName_lo (n : Nat) : LoopsOk (T := T) (Phi n 41) (impl_BoxName_Ls n) impl_BoxName_ann n impl_BoxName_code := loopsOk_all (cs := []) (by kernel_rfl) trivial
theorem impl_BoxName_ok (n : Nat) : EntOk Try.prog (ents n) (impl_BoxName_ent n) := by
  intro hs ar y hg h
  replace h : impl_BoxName_D n ar = some y := h
  unfold impl_BoxName_D at h
  replace h := ocons_some h
  obtain ⟨a0, r0, rfl, h⟩ := h
  replace h := onil_some h
  obtain ⟨rfl, h⟩ := h
  obtain ⟨text0, qh0, h⟩ := obind_some h
  rw [argV_eq ok qh0]
  exact call_of (phiE_nat _ _) hs ok mixed Try.func139 (c := impl_BoxName_code) (by kernel_rfl) (impl_BoxName_lo n) (by kernel_rfl) (by kernel_rfl) (by kernel_rfl) impl_BoxName_de ((impl_BoxName_tie n text0).trans h)
noncomputable def impl_portOk_code : Code := match Try.f81.body with | some c => c | none => .skip
def impl_portOk_ann : Ann := fun id => none
def impl_portOk_Ls (n : Nat) : Nat → Option (LSpec T) := fun id => none
theorem impl_portOk_tie (n : Nat) (n0 : Int) : evF (T := T) (Phi n 42) (impl_portOk_Ls n) impl_portOk_ann n Try.f81 (sg 81) [vA T 3 n0] impl_portOk_dec = impl_portOk n n0 := by kernel_rfl
theorem impl_portOk_lo (n : Nat) : LoopsOk (T := T) (Phi n 42) (impl_portOk_Ls n) impl_portOk_ann n impl_portOk_code := loopsOk_all (cs := []) (by kernel_rfl) trivial
theorem impl_portOk_ok (n : Nat) : EntOk Try.prog (ents n) (impl_portOk_ent n) := by
  intro hs ar y hg h
  replace h : impl_portOk_D n ar = some y := h
  unfold impl_portOk_D at h
  replace h := ocons_some h
  obtain ⟨a0, r0, rfl, h⟩ := h
  replace h := onil_some h
  obtain ⟨rfl, h⟩ := h
  obtain ⟨n0, qh0, h⟩ := obind_some h
  rw [argV_eq ok qh0]
  exact call_of (phiE_nat _ _) hs ok mixed Try.func81 (c := impl_portOk_code) (by kernel_rfl) (impl_portOk_lo n) (by kernel_rfl) (by kernel_rfl) (by kernel_rfl) impl_portOk_de ((impl_portOk_tie n n0).trans h)
noncomputable def impl_BoxOk_code : Code := match Try.f69.body with | some c => c | none => .skip
def impl_BoxOk_ann : Ann := fun id => none
def impl_BoxOk_Ls (n : Nat) : Nat → Option (LSpec T) := fun id => none
theorem impl_BoxOk_tie (n : Nat) (b0 : SBox) : evF (T := T) (Phi n 43) (impl_BoxOk_Ls n) impl_BoxOk_ann n Try.f69 (sg 69) [vA T 32 b0] impl_BoxOk_dec = impl_BoxOk n b0 := by kernel_rfl
theorem impl_BoxOk_lo (n : Nat) : LoopsOk (T := T) (Phi n 43) (impl_BoxOk_Ls n) impl_BoxOk_ann n impl_BoxOk_code := loopsOk_all (cs := []) (by kernel_rfl) trivial
theorem impl_BoxOk_ok (n : Nat) : EntOk Try.prog (ents n) (impl_BoxOk_ent n) := by
  intro hs ar y hg h
  replace h : impl_BoxOk_D n ar = some y := h
  unfold impl_BoxOk_D at h
  replace h := ocons_some h
  obtain ⟨a0, r0, rfl, h⟩ := h
  replace h := onil_some h
  obtain ⟨rfl, h⟩ := h
  obtain ⟨b0, qh0, h⟩ := obind_some h
  rw [argV_eq ok qh0]
  exact call_of (phiE_nat _ _) hs ok mixed Try.func69 (c := impl_BoxOk_code) (by kernel_rfl) (impl_BoxOk_lo n) (by kernel_rfl) (by kernel_rfl) (by kernel_rfl) impl_BoxOk_de ((impl_BoxOk_tie n b0).trans h)
noncomputable def impl_StowCode_1_code : Code := match Try.f83.body with | some c => c | none => .skip
def impl_StowCode_1_ann : Ann := fun id => none
def impl_StowCode_1_Ls (n : Nat) : Nat → Option (LSpec T) := fun id => none
theorem impl_StowCode_1_tie (n : Nat) (_0 : Int) (s1 : SStow) : evF (T := T) (Phi n 44) (impl_StowCode_1_Ls n) impl_StowCode_1_ann n Try.f83 (sg 83) [vA T 3 _0, vA T 47 s1] impl_StowCode_1_dec = impl_StowCode_1 n _0 s1 := by kernel_rfl
theorem impl_StowCode_1_lo (n : Nat) : LoopsOk (T := T) (Phi n 44) (impl_StowCode_1_Ls n) impl_StowCode_1_ann n impl_StowCode_1_code := loopsOk_all (cs := []) (by kernel_rfl) trivial
theorem impl_StowCode_1_ok (n : Nat) : EntOk Try.prog (ents n) (impl_StowCode_1_ent n) := by
  intro hs ar y hg h
  replace h : impl_StowCode_1_D n ar = some y := h
  unfold impl_StowCode_1_D at h
  replace h := ocons_some h
  obtain ⟨a0, r0, rfl, h⟩ := h
  replace h := ocons_some h
  obtain ⟨a1, r1, rfl, h⟩ := h
  replace h := onil_some h
  obtain ⟨rfl, h⟩ := h
  obtain ⟨_0, qh0, h⟩ := obind_some h
  obtain ⟨s1, qh1, h⟩ := obind_some h
  rw [argV_eq ok qh0, argV_eq ok qh1]
  exact call_of (phiE_nat _ _) hs ok mixed Try.func83 (c := impl_StowCode_1_code) (by kernel_rfl) (impl_StowCode_1_lo n) (by kernel_rfl) (by kernel_rfl) (by kernel_rfl) impl_StowCode_1_de ((impl_StowCode_1_tie n _0 s1).trans h)
noncomputable def impl_StowCode_2_1_code : Code := match Try.f86.body with | some c => c | none => .skip
def impl_StowCode_2_1_ann : Ann := fun id => none
def impl_StowCode_2_1_Ls (n : Nat) : Nat → Option (LSpec T) := fun id => none
theorem impl_StowCode_2_1_tie (n : Nat) (x0 : SStow) (a1 : SStow) : evF (T := T) (Phi n 45) (impl_StowCode_2_1_Ls n) impl_StowCode_2_1_ann n Try.f86 (sg 86) [vA T 47 x0, .ptr 47 a1] impl_StowCode_2_1_dec = impl_StowCode_2_1 n x0 a1 := by kernel_rfl
theorem impl_StowCode_2_1_lo (n : Nat) : LoopsOk (T := T) (Phi n 45) (impl_StowCode_2_1_Ls n) impl_StowCode_2_1_ann n impl_StowCode_2_1_code := loopsOk_all (cs := []) (by kernel_rfl) trivial
theorem impl_StowCode_2_1_ok (n : Nat) : EntOk Try.prog (ents n) (impl_StowCode_2_1_ent n) := by
  intro hs ar y hg h
  replace h : impl_StowCode_2_1_D n ar = some y := h
  unfold impl_StowCode_2_1_D at h
  replace h := ocons_some h
  obtain ⟨a0, r0, rfl, h⟩ := h
  replace h := ocons_some h
  obtain ⟨a1, r1, rfl, h⟩ := h
  replace h := onil_some h
  obtain ⟨rfl, h⟩ := h
  obtain ⟨x0, qh0, h⟩ := obind_some h
  obtain ⟨a1, qh1, h⟩ := obind_some h
  rw [argV_eq ok qh0, argP_eq qh1]
  exact call_of (phiE_nat _ _) hs ok mixed Try.func86 (c := impl_StowCode_2_1_code) (by kernel_rfl) (impl_StowCode_2_1_lo n) (by kernel_rfl) (by kernel_rfl) (by kernel_rfl) impl_StowCode_2_1_de ((impl_StowCode_2_1_tie n x0 a1).trans h)
noncomputable def slices_IndexFunc_impl_Stow_impl_Stow__impl_StowCode_2_1_code : Code := match Try.f147.body with | some c => c | none => .skip
def slices_IndexFunc_impl_Stow_impl_Stow__impl_StowCode_2_1_2_sv : List Sv := [.one (.arr 47), .one (.fnr 86 [47]), .one (.int .i64), .one (.int .i64)]
def slices_IndexFunc_impl_Stow_impl_Stow__impl_StowCode_2_1_2_so : List So := []
def slices_IndexFunc_impl_Stow_impl_Stow__impl_StowCode_2_1_2_emb (c : List SStow × SStow × Int) (x : Int) : EVs T slices_IndexFunc_impl_Stow_impl_Stow__impl_StowCode_2_1_2_sv × EOs T slices_IndexFunc_impl_Stow_impl_Stow__impl_StowCode_2_1_2_so := ((c.1, (c.2.1, ()), c.2.2, x, ()), ())
def slices_IndexFunc_impl_Stow_impl_Stow__impl_StowCode_2_1_2_prj (y : EVs T slices_IndexFunc_impl_Stow_impl_Stow__impl_StowCode_2_1_2_sv × EOs T slices_IndexFunc_impl_Stow_impl_Stow__impl_StowCode_2_1_2_so) : (List SStow × SStow × Int) × Int := ((y.1.1, y.1.2.1.1, y.1.2.2.1), (y.1.2.2.2.1))
def slices_IndexFunc_impl_Stow_impl_Stow__impl_StowCode_2_1_2_b (n : Nat) {R : Type} (K : Ex → Sm.St T → Option R) (c : List SStow × SStow × Int) (x : Int) (J : Int → Option R) : Option R :=
  slices_IndexFunc_impl_Stow_impl_Stow__impl_StowCode_2_1_L2 n (K (.exit 0) (stOf (T := T) [] [] [] [] () ())) (fun (y0 : Int) => K .ret (stOf (T := T) [4] [] [.one (.int .i64)] [] (y0, ()) ())) J c.1 c.2.1 c.2.2 x
def slices_IndexFunc_impl_Stow_impl_Stow__impl_StowCode_2_1_2_sp (n : Nat) : LSpec T := mkSpec T ⟨[], [0, 1, 7, 8], []⟩ slices_IndexFunc_impl_Stow_impl_Stow__impl_StowCode_2_1_2_sv slices_IndexFunc_impl_Stow_impl_Stow__impl_StowCode_2_1_2_so (List SStow × SStow × Int) (Int) slices_IndexFunc_impl_Stow_impl_Stow__impl_StowCode_2_1_2_emb slices_IndexFunc_impl_Stow_impl_Stow__impl_StowCode_2_1_2_prj (slices_IndexFunc_impl_Stow_impl_Stow__impl_StowCode_2_1_2_b n)
noncomputable def slices_IndexFunc_impl_Stow_impl_Stow__impl_StowCode_2_1_2_c : Code := ((loopCodes slices_IndexFunc_impl_Stow_impl_Stow__impl_StowCode_2_1_code)[0]?).getD .skip
def slices_IndexFunc_impl_Stow_impl_Stow__impl_StowCode_2_1_ann : Ann := fun id => bif Nat.beq id 3000002 then some ⟨[], [], []⟩ else bif Nat.beq id 2000002 then some ⟨[], [4], []⟩ else none
def slices_IndexFunc_impl_Stow_impl_Stow__impl_StowCode_2_1_Ls (n : Nat) : Nat → Option (LSpec T) := fun id => bif Nat.beq id 2 then some (slices_IndexFunc_impl_Stow_impl_Stow__impl_StowCode_2_1_2_sp n) else none
theorem slices_IndexFunc_impl_Stow_impl_Stow__impl_StowCode_2_1_2_le (n : Nat) : LoopEq (T := T) (Phi n 46) (slices_IndexFunc_impl_Stow_impl_Stow__impl_StowCode_2_1_Ls n) slices_IndexFunc_impl_Stow_impl_Stow__impl_StowCode_2_1_ann n slices_IndexFunc_impl_Stow_impl_Stow__impl_StowCode_2_1_2_c (slices_IndexFunc_impl_Stow_impl_Stow__impl_StowCode_2_1_2_sp n) := ⟨mkSpec_dec (fun y => rfl), fun c x => by kernel_rfl, fun K J c x => by kernel_rfl⟩
theorem slices_IndexFunc_impl_Stow_impl_Stow__impl_StowCode_2_1_tie (n : Nat) (s0 : List SStow) (f1c0 : SStow) : evF (T := T) (Phi n 46) (slices_IndexFunc_impl_Stow_impl_Stow__impl_StowCode_2_1_Ls n) slices_IndexFunc_impl_Stow_impl_Stow__impl_StowCode_2_1_ann n Try.f147 (sg 147) [vA T 34 s0, .fn 86 [.ptr 47 f1c0]] slices_IndexFunc_impl_Stow_impl_Stow__impl_StowCode_2_1_dec = slices_IndexFunc_impl_Stow_impl_Stow__impl_StowCode_2_1 n s0 f1c0 := by kernel_rfl
theorem slices_IndexFunc_impl_Stow_impl_Stow__impl_StowCode_2_1_lo (n : Nat) : LoopsOk (T := T) (Phi n 46) (slices_IndexFunc_impl_Stow_impl_Stow__impl_StowCode_2_1_Ls n) slices_IndexFunc_impl_Stow_impl_Stow__impl_StowCode_2_1_ann n slices_IndexFunc_impl_Stow_impl_Stow__impl_StowCode_2_1_code := loopsOk_all (cs := [slices_IndexFunc_impl_Stow_impl_Stow__impl_StowCode_2_1_2_c]) (by kernel_rfl) ⟨⟨_, by kernel_rfl, slices_IndexFunc_impl_Stow_impl_Stow__impl_StowCode_2_1_2_le n⟩, trivial⟩
theorem slices_IndexFunc_impl_Stow_impl_Stow__impl_StowCode_2_1_ok (n : Nat) : EntOk Try.prog (ents n) (slices_IndexFunc_impl_Stow_impl_Stow__impl_StowCode_2_1_ent n) := by
  intro hs ar y hg h
  replace h : slices_IndexFunc_impl_Stow_impl_Stow__impl_StowCode_2_1_D n ar = some y := h
  unfold slices_IndexFunc_impl_Stow_impl_Stow__impl_StowCode_2_1_D at h
  split at h
  · obtain ⟨s0, qh0, h⟩ := obind_some h
    obtain ⟨f1c0, qh1, h⟩ := obind_some h
    rw [argV_eq ok qh0, argP_eq qh1] at hg ⊢
    cases (show [_] = [86] from natsEq_eq hg)
    exact call_of (phiE_nat _ _) hs ok mixed Try.func147 (c := slices_IndexFunc_impl_Stow_impl_Stow__impl_StowCode_2_1_code) (by kernel_rfl) (slices_IndexFunc_impl_Stow_impl_Stow__impl_StowCode_2_1_lo n) (by kernel_rfl) (by kernel_rfl) (by kernel_rfl) slices_IndexFunc_impl_Stow_impl_Stow__impl_StowCode_2_1_de ((slices_IndexFunc_impl_Stow_impl_Stow__impl_StowCode_2_1_tie n s0 f1c0).trans h)
  · cases h
noncomputable def slices_ContainsFunc_impl_Stow_impl_Stow__impl_StowCode_2_1_code : Code := match Try.f85.body with | some c => c | none => .skip
def slices_ContainsFunc_impl_Stow_impl_Stow__impl_StowCode_2_1_ann : Ann := fun id => none
def slices_ContainsFunc_impl_Stow_impl_Stow__impl_StowCode_2_1_Ls (n : Nat) : Nat → Option (LSpec T) := fun id => none
theorem slices_ContainsFunc_impl_Stow_impl_Stow__impl_StowCode_2_1_tie (n : Nat) (s0 : List SStow) (f1c0 : SStow) : evF (T := T) (Phi n 47) (slices_ContainsFunc_impl_Stow_impl_Stow__impl_StowCode_2_1_Ls n) slices_ContainsFunc_impl_Stow_impl_Stow__impl_StowCode_2_1_ann n Try.f85 (sg 85) [vA T 34 s0, .fn 86 [.ptr 47 f1c0]] slices_ContainsFunc_impl_Stow_impl_Stow__impl_StowCode_2_1_dec = slices_ContainsFunc_impl_Stow_impl_Stow__impl_StowCode_2_1 n s0 f1c0 := by kernel_rfl
theorem slices_ContainsFunc_impl_Stow_impl_Stow__impl_StowCode_2_1_lo (n : Nat) : LoopsOk (T := T) (Phi n 47) (slices_ContainsFunc_impl_Stow_impl_Stow__impl_StowCode_2_1_Ls n) slices_ContainsFunc_impl_Stow_impl_Stow__impl_StowCode_2_1_ann n slices_ContainsFunc_impl_Stow_impl_Stow__impl_StowCode_2_1_code := loopsOk_all (cs := []) (by kernel_rfl) trivial
theorem slices_ContainsFunc_impl_Stow_impl_Stow__impl_StowCode_2_1_ok (n : Nat) : EntOk Try.prog (ents n) (slices_ContainsFunc_impl_Stow_impl_Stow__impl_StowCode_2_1_ent n) := by
  intro hs ar y hg h
  replace h : slices_ContainsFunc_impl_Stow_impl_Stow__impl_StowCode_2_1_D n ar = some y := h
  unfold slices_ContainsFunc_impl_Stow_impl_Stow__impl_StowCode_2_1_D at h
  split at h
  · obtain ⟨s0, qh0, h⟩ := obind_some h
    obtain ⟨f1c0, qh1, h⟩ := obind_some h
    rw [argV_eq ok qh0, argP_eq qh1] at hg ⊢
    cases (show [_] = [86] from natsEq_eq hg)
    exact call_of (phiE_nat _ _) hs ok mixed Try.func85 (c := slices_ContainsFunc_impl_Stow_impl_Stow__impl_StowCode_2_1_code) (by kernel_rfl) (slices_ContainsFunc_impl_Stow_impl_Stow__impl_StowCode_2_1_lo n) (by kernel_rfl) (by kernel_rfl) (by kernel_rfl) slices_ContainsFunc_impl_Stow_impl_Stow__impl_StowCode_2_1_de ((slices_ContainsFunc_impl_Stow_impl_Stow__impl_StowCode_2_1_tie n s0 f1c0).trans h)
  · cases h
noncomputable def impl_StowCode_2_code : Code := match Try.f84.body with | some c => c | none => .skip
def impl_StowCode_2_ann : Ann := fun id => none
def impl_StowCode_2_Ls (n : Nat) : Nat → Option (LSpec T) := fun id => none
theorem impl_StowCode_2_tie (n : Nat) (i0 : Int) (s1 : SStow) (a2 : List SStow) : evF (T := T) (Phi n 48) (impl_StowCode_2_Ls n) impl_StowCode_2_ann n Try.f84 (sg 84) [vA T 3 i0, vA T 47 s1, .ptr 34 a2] impl_StowCode_2_dec = impl_StowCode_2 n i0 s1 a2 := by kernel_rfl
theorem impl_StowCode_2_lo (n : Nat) : LoopsOk (T := T) (Phi n 48) (impl_StowCode_2_Ls n) impl_StowCode_2_ann n impl_StowCode_2_code := loopsOk_all (cs := []) (by kernel_rfl) trivial
theorem impl_StowCode_2_ok (n : Nat) : EntOk Try.prog (ents n) (impl_StowCode_2_ent n) := by
  intro hs ar y hg h
  replace h : impl_StowCode_2_D n ar = some y := h
  unfold impl_StowCode_2_D at h
  replace h := ocons_some h
  obtain ⟨a0, r0, rfl, h⟩ := h
  replace h := ocons_some h
  obtain ⟨a1, r1, rfl, h⟩ := h
  replace h := ocons_some h
  obtain ⟨a2, r2, rfl, h⟩ := h
  replace h := onil_some h
  obtain ⟨rfl, h⟩ := h
  obtain ⟨i0, qh0, h⟩ := obind_some h
  obtain ⟨s1, qh1, h⟩ := obind_some h
  obtain ⟨a2, qh2, h⟩ := obind_some h
  rw [argV_eq ok qh0, argV_eq ok qh1, argP_eq qh2]
  exact call_of (phiE_nat _ _) hs ok mixed Try.func84 (c := impl_StowCode_2_code) (by kernel_rfl) (impl_StowCode_2_lo n) (by kernel_rfl) (by kernel_rfl) (by kernel_rfl) impl_StowCode_2_de ((impl_StowCode_2_tie n i0 s1 a2).trans h)
noncomputable def impl_StowCode_3_code : Code := match Try.f87.body with | some c => c | none => .skip
def impl_StowCode_3_ann : Ann := fun id => none
def impl_StowCode_3_Ls (n : Nat) : Nat → Option (LSpec T) := fun id => none
theorem impl_StowCode_3_tie (n : Nat) (_0 : Int) (s1 : SStow) (a2 : List SHatch) : evF (T := T) (Phi n 49) (impl_StowCode_3_Ls n) impl_StowCode_3_ann n Try.f87 (sg 87) [vA T 3 _0, vA T 47 s1, .ptr 33 a2] impl_StowCode_3_dec = impl_StowCode_3 n _0 s1 a2 := by kernel_rfl
theorem impl_StowCode_3_lo (n : Nat) : LoopsOk (T := T) (Phi n 49) (impl_StowCode_3_Ls n) impl_StowCode_3_ann n impl_StowCode_3_code := loopsOk_all (cs := []) (by kernel_rfl) trivial
theorem impl_StowCode_3_ok (n : Nat) : EntOk Try.prog (ents n) (impl_StowCode_3_ent n) := by
  intro hs ar y hg h
  replace h : impl_StowCode_3_D n ar = some y := h
  unfold impl_StowCode_3_D at h
  replace h := ocons_some h
  obtain ⟨a0, r0, rfl, h⟩ := h
  replace h := ocons_some h
  obtain ⟨a1, r1, rfl, h⟩ := h
  replace h := ocons_some h
  obtain ⟨a2, r2, rfl, h⟩ := h
  replace h := onil_some h
  obtain ⟨rfl, h⟩ := h
  obtain ⟨_0, qh0, h⟩ := obind_some h
  obtain ⟨s1, qh1, h⟩ := obind_some h
  obtain ⟨a2, qh2, h⟩ := obind_some h
  rw [argV_eq ok qh0, argV_eq ok qh1, argP_eq qh2]
  exact call_of (phiE_nat _ _) hs ok mixed Try.func87 (c := impl_StowCode_3_code) (by kernel_rfl) (impl_StowCode_3_lo n) (by kernel_rfl) (by kernel_rfl) (by kernel_rfl) impl_StowCode_3_de ((impl_StowCode_3_tie n _0 s1 a2).trans h)
noncomputable def impl_StowCode_4_1_code : Code := match Try.f89.body with | some c => c | none => .skip
def impl_StowCode_4_1_ann : Ann := fun id => none
def impl_StowCode_4_1_Ls (n : Nat) : Nat → Option (LSpec T) := fun id => none
theorem impl_StowCode_4_1_tie (n : Nat) (x0 : SStow) (a1 : SSpot) : evF (T := T) (Phi n 50) (impl_StowCode_4_1_Ls n) impl_StowCode_4_1_ann n Try.f89 (sg 89) [vA T 47 x0, .ptr 45 a1] impl_StowCode_4_1_dec = impl_StowCode_4_1 n x0 a1 := by kernel_rfl
theorem impl_StowCode_4_1_lo (n : Nat) : LoopsOk (T := T) (Phi n 50) (impl_StowCode_4_1_Ls n) impl_StowCode_4_1_ann n impl_StowCode_4_1_code := loopsOk_all (cs := []) (by kernel_rfl) trivial
theorem impl_StowCode_4_1_ok (n : Nat) : EntOk Try.prog (ents n) (impl_StowCode_4_1_ent n) := by
  intro hs ar y hg h
  replace h : impl_StowCode_4_1_D n ar = some y := h
  unfold impl_StowCode_4_1_D at h
  replace h := ocons_some h
  obtain ⟨a0, r0, rfl, h⟩ := h
  replace h := ocons_some h
  obtain ⟨a1, r1, rfl, h⟩ := h
  replace h := onil_some h
  obtain ⟨rfl, h⟩ := h
  obtain ⟨x0, qh0, h⟩ := obind_some h
  obtain ⟨a1, qh1, h⟩ := obind_some h
  rw [argV_eq ok qh0, argP_eq qh1]
  exact call_of (phiE_nat _ _) hs ok mixed Try.func89 (c := impl_StowCode_4_1_code) (by kernel_rfl) (impl_StowCode_4_1_lo n) (by kernel_rfl) (by kernel_rfl) (by kernel_rfl) impl_StowCode_4_1_de ((impl_StowCode_4_1_tie n x0 a1).trans h)
noncomputable def slices_IndexFunc_impl_Stow_impl_Stow__impl_StowCode_4_1_code : Code := match Try.f147.body with | some c => c | none => .skip
def slices_IndexFunc_impl_Stow_impl_Stow__impl_StowCode_4_1_2_sv : List Sv := [.one (.arr 47), .one (.fnr 89 [45]), .one (.int .i64), .one (.int .i64)]
def slices_IndexFunc_impl_Stow_impl_Stow__impl_StowCode_4_1_2_so : List So := []
def slices_IndexFunc_impl_Stow_impl_Stow__impl_StowCode_4_1_2_emb (c : List SStow × SSpot × Int) (x : Int) : EVs T slices_IndexFunc_impl_Stow_impl_Stow__impl_StowCode_4_1_2_sv × EOs T slices_IndexFunc_impl_Stow_impl_Stow__impl_StowCode_4_1_2_so := ((c.1, (c.2.1, ()), c.2.2, x, ()), ())
def slices_IndexFunc_impl_Stow_impl_Stow__impl_StowCode_4_1_2_prj (y : EVs T slices_IndexFunc_impl_Stow_impl_Stow__impl_StowCode_4_1_2_sv × EOs T slices_IndexFunc_impl_Stow_impl_Stow__impl_StowCode_4_1_2_so) : (List SStow × SSpot × Int) × Int := ((y.1.1, y.1.2.1.1, y.1.2.2.1), (y.1.2.2.2.1))
def slices_IndexFunc_impl_Stow_impl_Stow__impl_StowCode_4_1_2_b (n : Nat) {R : Type} (K : Ex → Sm.St T → Option R) (c : List SStow × SSpot × Int) (x : Int) (J : Int → Option R) : Option R :=
  slices_IndexFunc_impl_Stow_impl_Stow__impl_StowCode_4_1_L2 n (K (.exit 0) (stOf (T := T) [] [] [] [] () ())) (fun (y0 : Int) => K .ret (stOf (T := T) [4] [] [.one (.int .i64)] [] (y0, ()) ())) J c.1 c.2.1 c.2.2 x
def slices_IndexFunc_impl_Stow_impl_Stow__impl_StowCode_4_1_2_sp (n : Nat) : LSpec T := mkSpec T ⟨[], [0, 1, 7, 8], []⟩ slices_IndexFunc_impl_Stow_impl_Stow__impl_StowCode_4_1_2_sv slices_IndexFunc_impl_Stow_impl_Stow__impl_StowCode_4_1_2_so (List SStow × SSpot × Int) (Int) slices_IndexFunc_impl_Stow_impl_Stow__impl_StowCode_4_1_2_emb slices_IndexFunc_impl_Stow_impl_Stow__impl_StowCode_4_1_2_prj (slices_IndexFunc_impl_Stow_impl_Stow__impl_StowCode_4_1_2_b n)
noncomputable def slices_IndexFunc_impl_Stow_impl_Stow__impl_StowCode_4_1_2_c : Code := ((loopCodes slices_IndexFunc_impl_Stow_impl_Stow__impl_StowCode_4_1_code)[0]?).getD .skip
def slices_IndexFunc_impl_Stow_impl_Stow__impl_StowCode_4_1_ann : Ann := fun id => bif Nat.beq id 3000002 then some ⟨[], [], []⟩ else bif Nat.beq id 2000002 then some ⟨[], [4], []⟩ else none
def slices_IndexFunc_impl_Stow_impl_Stow__impl_StowCode_4_1_Ls (n : Nat) : Nat → Option (LSpec T) := fun id => bif Nat.beq id 2 then some (slices_IndexFunc_impl_Stow_impl_Stow__impl_StowCode_4_1_2_sp n) else none
theorem slices_IndexFunc_impl_Stow_impl_Stow__impl_StowCode_4_1_2_le (n : Nat) : LoopEq (T := T) (Phi n 51) (slices_IndexFunc_impl_Stow_impl_Stow__impl_StowCode_4_1_Ls n) slices_IndexFunc_impl_Stow_impl_Stow__impl_StowCode_4_1_ann n slices_IndexFunc_impl_Stow_impl_Stow__impl_StowCode_4_1_2_c (slices_IndexFunc_impl_Stow_impl_Stow__impl_StowCode_4_1_2_sp n) := ⟨mkSpec_dec (fun y => rfl), fun c x => by kernel_rfl, fun K J c x => by kernel_rfl⟩
theorem slices_IndexFunc_impl_Stow_impl_Stow__impl_StowCode_4_1_tie (n : Nat) (s0 : List SStow) (f1c0 : SSpot) : evF (T := T) (Phi n 51) (slices_IndexFunc_impl_Stow_impl_Stow__impl_StowCode_4_1_Ls n) slices_IndexFunc_impl_Stow_impl_Stow__impl_StowCode_4_1_ann n Try.f147 (sg 147) [vA T 34 s0, .fn 89 [.ptr 45 f1c0]] slices_IndexFunc_impl_Stow_impl_Stow__impl_StowCode_4_1_dec = slices_IndexFunc_impl_Stow_impl_Stow__impl_StowCode_4_1 n s0 f1c0 := by kernel_rfl
theorem slices_IndexFunc_impl_Stow_impl_Stow__impl_StowCode_4_1_lo (n : Nat) : LoopsOk (T := T) (Phi n 51) (slices_IndexFunc_impl_Stow_impl_Stow__impl_StowCode_4_1_Ls n) slices_IndexFunc_impl_Stow_impl_Stow__impl_StowCode_4_1_ann n slices_IndexFunc_impl_Stow_impl_Stow__impl_StowCode_4_1_code := loopsOk_all (cs := [slices_IndexFunc_impl_Stow_impl_Stow__impl_StowCode_4_1_2_c]) (by kernel_rfl) ⟨⟨_, by kernel_rfl, slices_IndexFunc_impl_Stow_impl_Stow__impl_StowCode_4_1_2_le n⟩, trivial⟩
theorem slices_IndexFunc_impl_Stow_impl_Stow__impl_StowCode_4_1_ok (n : Nat) : EntOk Try.prog (ents n) (slices_IndexFunc_impl_Stow_impl_Stow__impl_StowCode_4_1_ent n) := by
  intro hs ar y hg h
  replace h : slices_IndexFunc_impl_Stow_impl_Stow__impl_StowCode_4_1_D n ar = some y := h
  unfold slices_IndexFunc_impl_Stow_impl_Stow__impl_StowCode_4_1_D at h
  split at h
  · obtain ⟨s0, qh0, h⟩ := obind_some h
    obtain ⟨f1c0, qh1, h⟩ := obind_some h
    rw [argV_eq ok qh0, argP_eq qh1] at hg ⊢
    cases (show [_] = [89] from natsEq_eq hg)
    exact call_of (phiE_nat _ _) hs ok mixed Try.func147 (c := slices_IndexFunc_impl_Stow_impl_Stow__impl_StowCode_4_1_code) (by kernel_rfl) (slices_IndexFunc_impl_Stow_impl_Stow__impl_StowCode_4_1_lo n) (by kernel_rfl) (by kernel_rfl) (by kernel_rfl) slices_IndexFunc_impl_Stow_impl_Stow__impl_StowCode_4_1_de ((slices_IndexFunc_impl_Stow_impl_Stow__impl_StowCode_4_1_tie n s0 f1c0).trans h)
  · cases h
noncomputable def slices_ContainsFunc_impl_Stow_impl_Stow__impl_StowCode_4_1_code : Code := match Try.f85.body with | some c => c | none => .skip
def slices_ContainsFunc_impl_Stow_impl_Stow__impl_StowCode_4_1_ann : Ann := fun id => none
def slices_ContainsFunc_impl_Stow_impl_Stow__impl_StowCode_4_1_Ls (n : Nat) : Nat → Option (LSpec T) := fun id => none
theorem slices_ContainsFunc_impl_Stow_impl_Stow__impl_StowCode_4_1_tie (n : Nat) (s0 : List SStow) (f1c0 : SSpot) : evF (T := T) (Phi n 52) (slices_ContainsFunc_impl_Stow_impl_Stow__impl_StowCode_4_1_Ls n) slices_ContainsFunc_impl_Stow_impl_Stow__impl_StowCode_4_1_ann n Try.f85 (sg 85) [vA T 34 s0, .fn 89 [.ptr 45 f1c0]] slices_ContainsFunc_impl_Stow_impl_Stow__impl_StowCode_4_1_dec = slices_ContainsFunc_impl_Stow_impl_Stow__impl_StowCode_4_1 n s0 f1c0 := by kernel_rfl
theorem slices_ContainsFunc_impl_Stow_impl_Stow__impl_StowCode_4_1_lo (n : Nat) : LoopsOk (T := T) (Phi n 52) (slices_ContainsFunc_impl_Stow_impl_Stow__impl_StowCode_4_1_Ls n) slices_ContainsFunc_impl_Stow_impl_Stow__impl_StowCode_4_1_ann n slices_ContainsFunc_impl_Stow_impl_Stow__impl_StowCode_4_1_code := loopsOk_all (cs := []) (by kernel_rfl) trivial
theorem slices_ContainsFunc_impl_Stow_impl_Stow__impl_StowCode_4_1_ok (n : Nat) : EntOk Try.prog (ents n) (slices_ContainsFunc_impl_Stow_impl_Stow__impl_StowCode_4_1_ent n) := by
  intro hs ar y hg h
  replace h : slices_ContainsFunc_impl_Stow_impl_Stow__impl_StowCode_4_1_D n ar = some y := h
  unfold slices_ContainsFunc_impl_Stow_impl_Stow__impl_StowCode_4_1_D at h
  split at h
  · obtain ⟨s0, qh0, h⟩ := obind_some h
    obtain ⟨f1c0, qh1, h⟩ := obind_some h
    rw [argV_eq ok qh0, argP_eq qh1] at hg ⊢
    cases (show [_] = [89] from natsEq_eq hg)
    exact call_of (phiE_nat _ _) hs ok mixed Try.func85 (c := slices_ContainsFunc_impl_Stow_impl_Stow__impl_StowCode_4_1_code) (by kernel_rfl) (slices_ContainsFunc_impl_Stow_impl_Stow__impl_StowCode_4_1_lo n) (by kernel_rfl) (by kernel_rfl) (by kernel_rfl) slices_ContainsFunc_impl_Stow_impl_Stow__impl_StowCode_4_1_de ((slices_ContainsFunc_impl_Stow_impl_Stow__impl_StowCode_4_1_tie n s0 f1c0).trans h)
  · cases h
noncomputable def impl_StowCode_4_code : Code := match Try.f88.body with | some c => c | none => .skip
def impl_StowCode_4_ann : Ann := fun id => none
def impl_StowCode_4_Ls (n : Nat) : Nat → Option (LSpec T) := fun id => none
theorem impl_StowCode_4_tie (n : Nat) (_0 : Int) (s1 : SStow) (a2 : List SStow) : evF (T := T) (Phi n 53) (impl_StowCode_4_Ls n) impl_StowCode_4_ann n Try.f88 (sg 88) [vA T 3 _0, vA T 47 s1, .ptr 34 a2] impl_StowCode_4_dec = impl_StowCode_4 n _0 s1 a2 := by kernel_rfl
theorem impl_StowCode_4_lo (n : Nat) : LoopsOk (T := T) (Phi n 53) (impl_StowCode_4_Ls n) impl_StowCode_4_ann n impl_StowCode_4_code := loopsOk_all (cs := []) (by kernel_rfl) trivial
theorem impl_StowCode_4_ok (n : Nat) : EntOk Try.prog (ents n) (impl_StowCode_4_ent n) := by
  intro hs ar y hg h
  replace h : impl_StowCode_4_D n ar = some y := h
  unfold impl_StowCode_4_D at h
  replace h := ocons_some h
  obtain ⟨a0, r0, rfl, h⟩ := h
  replace h := ocons_some h
  obtain ⟨a1, r1, rfl, h⟩ := h
  replace h := ocons_some h
  obtain ⟨a2, r2, rfl, h⟩ := h
  replace h := onil_some h
  obtain ⟨rfl, h⟩ := h
  obtain ⟨_0, qh0, h⟩ := obind_some h
  obtain ⟨s1, qh1, h⟩ := obind_some h
  obtain ⟨a2, qh2, h⟩ := obind_some h
  rw [argV_eq ok qh0, argV_eq ok qh1, argP_eq qh2]
  exact call_of (phiE_nat _ _) hs ok mixed Try.func88 (c := impl_StowCode_4_code) (by kernel_rfl) (impl_StowCode_4_lo n) (by kernel_rfl) (by kernel_rfl) (by kernel_rfl) impl_StowCode_4_de ((impl_StowCode_4_tie n _0 s1 a2).trans h)
noncomputable def cmp_isNaN_int_code : Code := match Try.f174.body with | some c => c | none => .skip
def cmp_isNaN_int_ann : Ann := fun id => none
def cmp_isNaN_int_Ls (n : Nat) : Nat → Option (LSpec T) := fun id => none
theorem cmp_isNaN_int_tie (n : Nat) (x0 : Int) : evF (T := T) (Phi n 54) (cmp_isNaN_int_Ls n) cmp_isNaN_int_ann n Try.f174 (sg 174) [vA T 3 x0] cmp_isNaN_int_dec = cmp_isNaN_int n x0 := by kernel_rfl
theorem cmp_isNaN_int_lo (n : Nat) : LoopsOk (T := T) (Phi n 54) (cmp_isNaN_int_Ls n) cmp_isNaN_int_ann n cmp_isNaN_int_code := loopsOk_all (cs := []) (by kernel_rfl) trivial
theorem cmp_isNaN_int_ok (n : Nat) : EntOk Try.prog (ents n) (cmp_isNaN_int_ent n) := by
  intro hs ar y hg h
  replace h : cmp_isNaN_int_D n ar = some y := h
  unfold cmp_isNaN_int_D at h
  replace h := ocons_some h
  obtain ⟨a0, r0, rfl, h⟩ := h
  replace h := onil_some h
  obtain ⟨rfl, h⟩ := h
  obtain ⟨x0, qh0, h⟩ := obind_some h
  rw [argV_eq ok qh0]
  exact call_of (phiE_nat _ _) hs ok mixed Try.func174 (c := cmp_isNaN_int_code) (by kernel_rfl) (cmp_isNaN_int_lo n) (by kernel_rfl) (by kernel_rfl) (by kernel_rfl) cmp_isNaN_int_de ((cmp_isNaN_int_tie n x0).trans h)
noncomputable def cmp_Compare_int_code : Code := match Try.f150.body with | some c => c | none => .skip
def cmp_Compare_int_ann : Ann := fun id => none
def cmp_Compare_int_Ls (n : Nat) : Nat → Option (LSpec T) := fun id => none
theorem cmp_Compare_int_tie (n : Nat) (x0 : Int) (y1 : Int) : evF (T := T) (Phi n 55) (cmp_Compare_int_Ls n) cmp_Compare_int_ann n Try.f150 (sg 150) [vA T 3 x0, vA T 3 y1] cmp_Compare_int_dec = cmp_Compare_int n x0 y1 := by kernel_rfl
theorem cmp_Compare_int_lo (n : Nat) : LoopsOk (T := T) (Phi n 55) (cmp_Compare_int_Ls n) cmp_Compare_int_ann n cmp_Compare_int_code := loopsOk_all (cs := []) (by kernel_rfl) trivial
theorem cmp_Compare_int_ok (n : Nat) : EntOk Try.prog (ents n) (cmp_Compare_int_ent n) := by
  intro hs ar y hg h
  replace h : cmp_Compare_int_D n ar = some y := h
  unfold cmp_Compare_int_D at h
  replace h := ocons_some h
  obtain ⟨a0, r0, rfl, h⟩ := h
  replace h := ocons_some h
  obtain ⟨a1, r1, rfl, h⟩ := h
  replace h := onil_some h
  obtain ⟨rfl, h⟩ := h
  obtain ⟨x0, qh0, h⟩ := obind_some h
  obtain ⟨y1, qh1, h⟩ := obind_some h
  rw [argV_eq ok qh0, argV_eq ok qh1]
  exact call_of (phiE_nat _ _) hs ok mixed Try.func150 (c := cmp_Compare_int_code) (by kernel_rfl) (cmp_Compare_int_lo n) (by kernel_rfl) (by kernel_rfl) (by kernel_rfl) cmp_Compare_int_de ((cmp_Compare_int_tie n x0 y1).trans h)
noncomputable def impl_stackOf_1_code : Code := match Try.f149.body with | some c => c | none => .skip
def impl_stackOf_1_ann : Ann := fun id => none
def impl_stackOf_1_Ls (n : Nat) : Nat → Option (LSpec T) := fun id => none
theorem impl_stackOf_1_tie (n : Nat) (a0 : SStow) (b1 : SStow) : evF (T := T) (Phi n 56) (impl_stackOf_1_Ls n) impl_stackOf_1_ann n Try.f149 (sg 149) [vA T 47 a0, vA T 47 b1] impl_stackOf_1_dec = impl_stackOf_1 n a0 b1 := by kernel_rfl
theorem impl_stackOf_1_lo (n : Nat) : LoopsOk (T := T) (Phi n 56) (impl_stackOf_1_Ls n) impl_stackOf_1_ann n impl_stackOf_1_code := loopsOk_all (cs := []) (by kernel_rfl) trivial
theorem impl_stackOf_1_ok (n : Nat) : EntOk Try.prog (ents n) (impl_stackOf_1_ent n) := by
  intro hs ar y hg h
  replace h : impl_stackOf_1_D n ar = some y := h
  unfold impl_stackOf_1_D at h
  replace h := ocons_some h
  obtain ⟨a0, r0, rfl, h⟩ := h
  replace h := ocons_some h
  obtain ⟨a1, r1, rfl, h⟩ := h
  replace h := onil_some h
  obtain ⟨rfl, h⟩ := h
  obtain ⟨a0, qh0, h⟩ := obind_some h
  obtain ⟨b1, qh1, h⟩ := obind_some h
  rw [argV_eq ok qh0, argV_eq ok qh1]
  exact call_of (phiE_nat _ _) hs ok mixed Try.func149 (c := impl_stackOf_1_code) (by kernel_rfl) (impl_stackOf_1_lo n) (by kernel_rfl) (by kernel_rfl) (by kernel_rfl) impl_stackOf_1_de ((impl_stackOf_1_tie n a0 b1).trans h)
theorem slices_SortFunc_impl_Stow_impl_Stow__impl_stackOf_1_cl (n : Nat) (x y : U 47) : PhiE (T := T) (ents n) 57 149 [vA T 47 x, vA T 47 y] some = (impl_stackOf_1 n x y).bind fun r => some (impl_stackOf_1_enc r) := by kernel_rfl
theorem slices_SortFunc_impl_Stow_impl_Stow__impl_stackOf_1_ok (n : Nat) : EntOk Try.prog (ents n) (slices_SortFunc_impl_Stow_impl_Stow__impl_stackOf_1_ent n) := by
  intro hs ar y hg h
  replace h : slices_SortFunc_impl_Stow_impl_Stow__impl_stackOf_1_D n ar = some y := h
  unfold slices_SortFunc_impl_Stow_impl_Stow__impl_stackOf_1_D at h
  split at h
  · obtain ⟨l0, qh0, h⟩ := obind_some h
    rw [argV_eq ok qh0] at hg ⊢
    cases (show [_] = [149] from natsEq_eq hg)
    refine sortL_call ok lay148 (e := 47) (g := 149) (caps := []) (by kernel_rfl) (by kernel_rfl) (by decide) (by kernel_rfl) (by kernel_rfl) (by kernel_rfl) (by kernel_rfl) (fun x y c hc => ?_) h
    have h1 : PhiE (T := T) (ents n) 57 149 [vA T 47 x, vA T 47 y] some = some (impl_stackOf_1_enc c) := (slices_SortFunc_impl_Stow_impl_Stow__impl_stackOf_1_cl n x y).trans (by rw [show impl_stackOf_1 n x y = some c from hc]; rfl)
    obtain ⟨res, h2, h3⟩ := hs _ _ _ _ h1
    cases h3
    exact h2
  · cases h
noncomputable def impl_stackOf_code : Code := match Try.f91.body with | some c => c | none => .skip
def impl_stackOf_3_sv : List Sv := [.one (.int .i64), .one (.int .i64), .one (.own 3000000 47 false), .one (.arr 47), .one (.int .i64), .one (.int .i64)]
def impl_stackOf_3_so : List So := [.arr 47 false]
def impl_stackOf_3_emb (c : Int × Int × List SStow × Int) (x : Int × List SStow) : EVs T impl_stackOf_3_sv × EOs T impl_stackOf_3_so := ((c.1, c.2.1, (), c.2.2.1, c.2.2.2, x.1, ()), (x.2, ()))
def impl_stackOf_3_prj (y : EVs T impl_stackOf_3_sv × EOs T impl_stackOf_3_so) : (Int × Int × List SStow × Int) × (Int × List SStow) := ((y.1.1, y.1.2.1, y.1.2.2.2.1, y.1.2.2.2.2.1), (y.1.2.2.2.2.2.1, y.2.1))
def impl_stackOf_3_b (n : Nat) {R : Type} (K : Ex → Sm.St T → Option R) (c : Int × Int × List SStow × Int) (x : Int × List SStow) (J : (Int × List SStow) → Option R) : Option R :=
  impl_stackOf_L3 n (fun (y0 : List SStow) => K (.exit 0) (stOf (T := T) [7] [3000000] [.one (.own 3000000 47 false)] [.arr 47 false] ((), ()) (y0, ()))) (fun z0 z1 => J (z0, z1)) c.1 c.2.1 c.2.2.1 c.2.2.2 x.1 x.2
def impl_stackOf_3_sp (n : Nat) : LSpec T := mkSpec T ⟨[((.reg 7), 3000000, 47)], [1, 2, 7, 13, 14, 15], [3000000]⟩ impl_stackOf_3_sv impl_stackOf_3_so (Int × Int × List SStow × Int) (Int × List SStow) impl_stackOf_3_emb impl_stackOf_3_prj (impl_stackOf_3_b n)
noncomputable def impl_stackOf_3_c : Code := ((loopCodes impl_stackOf_code)[0]?).getD .skip
def impl_stackOf_11_sv : List Sv := [.one (.own 3000001 32 false), .one (.own 3000002 47 false), .one (.int .i64), .one (.int .i64)]
def impl_stackOf_11_so : List So := [.arr 32 false, .arr 47 false]
def impl_stackOf_11_emb (c : Int × List SStow) (x : Int × List SBox) : EVs T impl_stackOf_11_sv × EOs T impl_stackOf_11_so := (((), (), c.1, x.1, ()), (x.2, c.2, ()))
def impl_stackOf_11_prj (y : EVs T impl_stackOf_11_sv × EOs T impl_stackOf_11_so) : (Int × List SStow) × (Int × List SBox) := ((y.1.2.2.1, y.2.2.1), (y.1.2.2.2.1, y.2.1))
def impl_stackOf_11_b (n : Nat) {R : Type} (K : Ex → Sm.St T → Option R) (c : Int × List SStow) (x : Int × List SBox) (J : (Int × List SBox) → Option R) : Option R :=
  impl_stackOf_L11 n (fun (y0 : List SBox) => K (.exit 2) (stOf (T := T) [10] [3000001] [.one (.own 3000001 32 false)] [.arr 32 false] ((), ()) (y0, ()))) (fun z0 z1 => J (z0, z1)) c.1 x.1 x.2 c.2
def impl_stackOf_11_sp (n : Nat) : LSpec T := mkSpec T ⟨[((.reg 10), 3000001, 32), ((.reg 38), 3000002, 47)], [10, 38, 39, 40], [3000001, 3000002]⟩ impl_stackOf_11_sv impl_stackOf_11_so (Int × List SStow) (Int × List SBox) impl_stackOf_11_emb impl_stackOf_11_prj (impl_stackOf_11_b n)
noncomputable def impl_stackOf_11_c : Code := ((loopCodes impl_stackOf_code)[1]?).getD .skip
def impl_stackOf_ann : Ann := fun id => bif Nat.beq id 3000003 then some ⟨[((.reg 7), 3000000, 47)], [7], [3000000]⟩ else bif Nat.beq id 5000011 then some ⟨[((.reg 10), 3000001, 32)], [10], [3000001]⟩ else none
def impl_stackOf_Ls (n : Nat) : Nat → Option (LSpec T) := fun id => bif Nat.beq id 3 then some (impl_stackOf_3_sp n) else bif Nat.beq id 11 then some (impl_stackOf_11_sp n) else none
theorem impl_stackOf_3_le (n : Nat) : LoopEq (T := T) (Phi n 58) (impl_stackOf_Ls n) impl_stackOf_ann n impl_stackOf_3_c (impl_stackOf_3_sp n) := ⟨mkSpec_dec (fun y => rfl), fun c x => by kernel_rfl, fun K J c x => by kernel_rfl⟩
theorem impl_stackOf_11_le (n : Nat) : LoopEq (T := T) (Phi n 58) (impl_stackOf_Ls n) impl_stackOf_ann n impl_stackOf_11_c (impl_stackOf_11_sp n) := ⟨mkSpec_dec (fun y => rfl), fun c x => by kernel_rfl, fun K J c x => by kernel_rfl⟩
theorem impl_stackOf_tie (n : Nat) (list0 : List SStow) (bay1 : Int) (row2 : Int) : evF (T := T) (Phi n 58) (impl_stackOf_Ls n) impl_stackOf_ann n Try.f91 (sg 91) [vA T 34 list0, vA T 3 bay1, vA T 3 row2] impl_stackOf_dec = impl_stackOf n list0 bay1 row2 := by kernel_rfl
theorem impl_stackOf_lo (n : Nat) : LoopsOk (T := T) (Phi n 58) (impl_stackOf_Ls n) impl_stackOf_ann n impl_stackOf_code := loopsOk_all (cs := [impl_stackOf_3_c, impl_stackOf_11_c]) (by kernel_rfl) ⟨⟨_, by kernel_rfl, impl_stackOf_3_le n⟩, ⟨_, by kernel_rfl, impl_stackOf_11_le n⟩, trivial⟩
theorem impl_stackOf_ok (n : Nat) : EntOk Try.prog (ents n) (impl_stackOf_ent n) := by
  intro hs ar y hg h
  replace h : impl_stackOf_D n ar = some y := h
  unfold impl_stackOf_D at h
  replace h := ocons_some h
  obtain ⟨a0, r0, rfl, h⟩ := h
  replace h := ocons_some h
  obtain ⟨a1, r1, rfl, h⟩ := h
  replace h := ocons_some h
  obtain ⟨a2, r2, rfl, h⟩ := h
  replace h := onil_some h
  obtain ⟨rfl, h⟩ := h
  obtain ⟨list0, qh0, h⟩ := obind_some h
  obtain ⟨bay1, qh1, h⟩ := obind_some h
  obtain ⟨row2, qh2, h⟩ := obind_some h
  rw [argV_eq ok qh0, argV_eq ok qh1, argV_eq ok qh2]
  exact call_of (phiE_nat _ _) hs ok mixed Try.func91 (c := impl_stackOf_code) (by kernel_rfl) (impl_stackOf_lo n) (by kernel_rfl) (by kernel_rfl) (by kernel_rfl) impl_stackOf_de ((impl_stackOf_tie n list0 bay1 row2).trans h)
noncomputable def impl_StackOk_code : Code := match Try.f14.body with | some c => c | none => .skip
def impl_StackOk_5_sv : List Sv := [.one (.arr 32), .one (.int .i64), .one (.int .i64), .one (.arr 32), .one (.int .i64), .one (.int .i64)]
def impl_StackOk_5_so : List So := []
def impl_StackOk_5_emb (c : List SBox × Int × List SBox × Int) (x : Int × Int) : EVs T impl_StackOk_5_sv × EOs T impl_StackOk_5_so := ((c.1, c.2.1, x.1, c.2.2.1, c.2.2.2, x.2, ()), ())
def impl_StackOk_5_prj (y : EVs T impl_StackOk_5_sv × EOs T impl_StackOk_5_so) : (List SBox × Int × List SBox × Int) × (Int × Int) := ((y.1.1, y.1.2.1, y.1.2.2.2.1, y.1.2.2.2.2.1), (y.1.2.2.1, y.1.2.2.2.2.2.1))
def impl_StackOk_5_b (n : Nat) {R : Type} (K : Ex → Sm.St T → Option R) (c : List SBox × Int × List SBox × Int) (x : Int × Int) (J : (Int × Int) → Option R) : Option R :=
  impl_StackOk_L5 n (fun (y1 : Int) => K (.exit 0) (stOf (T := T) [1, 5] [] [.one (.int .i64), .one (.int .i64)] [] (c.2.1, y1, ()) ())) (fun (y0 : Bool) => K .ret (stOf (T := T) [4] [] [.one (.bool)] [] (y0, ()) ())) (fun z0 z1 => J (z0, z1)) c.1 c.2.1 x.1 c.2.2.1 c.2.2.2 x.2
def impl_StackOk_5_sp (n : Nat) : LSpec T := mkSpec T ⟨[], [0, 1, 5, 16, 17, 18], []⟩ impl_StackOk_5_sv impl_StackOk_5_so (List SBox × Int × List SBox × Int) (Int × Int) impl_StackOk_5_emb impl_StackOk_5_prj (impl_StackOk_5_b n)
noncomputable def impl_StackOk_5_c : Code := ((loopCodes impl_StackOk_code)[0]?).getD .skip
def impl_StackOk_ann : Ann := fun id => bif Nat.beq id 3000005 then some ⟨[], [1, 5], []⟩ else bif Nat.beq id 2000005 then some ⟨[], [4], []⟩ else none
def impl_StackOk_Ls (n : Nat) : Nat → Option (LSpec T) := fun id => bif Nat.beq id 5 then some (impl_StackOk_5_sp n) else none
theorem impl_StackOk_5_le (n : Nat) : LoopEq (T := T) (Phi n 59) (impl_StackOk_Ls n) impl_StackOk_ann n impl_StackOk_5_c (impl_StackOk_5_sp n) := ⟨mkSpec_dec (fun y => rfl), fun c x => by kernel_rfl, fun K J c x => by kernel_rfl⟩
theorem impl_StackOk_tie (n : Nat) (boxes0 : List SBox) (most1 : Int) : evF (T := T) (Phi n 59) (impl_StackOk_Ls n) impl_StackOk_ann n Try.f14 (sg 14) [vA T 24 boxes0, vA T 3 most1] impl_StackOk_dec = impl_StackOk n boxes0 most1 := by kernel_rfl
theorem impl_StackOk_lo (n : Nat) : LoopsOk (T := T) (Phi n 59) (impl_StackOk_Ls n) impl_StackOk_ann n impl_StackOk_code := loopsOk_all (cs := [impl_StackOk_5_c]) (by kernel_rfl) ⟨⟨_, by kernel_rfl, impl_StackOk_5_le n⟩, trivial⟩
theorem impl_StackOk_ok (n : Nat) : EntOk Try.prog (ents n) (impl_StackOk_ent n) := by
  intro hs ar y hg h
  replace h : impl_StackOk_D n ar = some y := h
  unfold impl_StackOk_D at h
  replace h := ocons_some h
  obtain ⟨a0, r0, rfl, h⟩ := h
  replace h := ocons_some h
  obtain ⟨a1, r1, rfl, h⟩ := h
  replace h := onil_some h
  obtain ⟨rfl, h⟩ := h
  obtain ⟨boxes0, qh0, h⟩ := obind_some h
  obtain ⟨most1, qh1, h⟩ := obind_some h
  rw [argV_eq ok qh0, argV_eq ok qh1]
  exact call_of (phiE_nat _ _) hs ok mixed Try.func14 (c := impl_StackOk_code) (by kernel_rfl) (impl_StackOk_lo n) (by kernel_rfl) (by kernel_rfl) (by kernel_rfl) impl_StackOk_de ((impl_StackOk_tie n boxes0 most1).trans h)
noncomputable def impl_StowCode_5_code : Code := match Try.f90.body with | some c => c | none => .skip
def impl_StowCode_5_ann : Ann := fun id => none
def impl_StowCode_5_Ls (n : Nat) : Nat → Option (LSpec T) := fun id => none
theorem impl_StowCode_5_tie (n : Nat) (_0 : Int) (s1 : SStow) (a2 : List SStow) (a3 : List SHatch) : evF (T := T) (Phi n 60) (impl_StowCode_5_Ls n) impl_StowCode_5_ann n Try.f90 (sg 90) [vA T 3 _0, vA T 47 s1, .ptr 34 a2, .ptr 33 a3] impl_StowCode_5_dec = impl_StowCode_5 n _0 s1 a2 a3 := by kernel_rfl
theorem impl_StowCode_5_lo (n : Nat) : LoopsOk (T := T) (Phi n 60) (impl_StowCode_5_Ls n) impl_StowCode_5_ann n impl_StowCode_5_code := loopsOk_all (cs := []) (by kernel_rfl) trivial
theorem impl_StowCode_5_ok (n : Nat) : EntOk Try.prog (ents n) (impl_StowCode_5_ent n) := by
  intro hs ar y hg h
  replace h : impl_StowCode_5_D n ar = some y := h
  unfold impl_StowCode_5_D at h
  replace h := ocons_some h
  obtain ⟨a0, r0, rfl, h⟩ := h
  replace h := ocons_some h
  obtain ⟨a1, r1, rfl, h⟩ := h
  replace h := ocons_some h
  obtain ⟨a2, r2, rfl, h⟩ := h
  replace h := ocons_some h
  obtain ⟨a3, r3, rfl, h⟩ := h
  replace h := onil_some h
  obtain ⟨rfl, h⟩ := h
  obtain ⟨_0, qh0, h⟩ := obind_some h
  obtain ⟨s1, qh1, h⟩ := obind_some h
  obtain ⟨a2, qh2, h⟩ := obind_some h
  obtain ⟨a3, qh3, h⟩ := obind_some h
  rw [argV_eq ok qh0, argV_eq ok qh1, argP_eq qh2, argP_eq qh3]
  exact call_of (phiE_nat _ _) hs ok mixed Try.func90 (c := impl_StowCode_5_code) (by kernel_rfl) (impl_StowCode_5_lo n) (by kernel_rfl) (by kernel_rfl) (by kernel_rfl) impl_StowCode_5_de ((impl_StowCode_5_tie n _0 s1 a2 a3).trans h)
noncomputable def impl_StowCode_6_code : Code := match Try.f92.body with | some c => c | none => .skip
def impl_StowCode_6_3_sv : List Sv := [.one (.rptr 33 0), .one (.ptr 40 0 0), .one (.int .i64), .one (.arr 47), .one (.int .i64), .one (.int .i64)]
def impl_StowCode_6_3_so : List So := [.var [.str, .int .i64, .int .i64, .bool, .int .i64, .int .i64, .int .i64, .int .i64, .int .i64]]
def impl_StowCode_6_3_emb (c : List SHatch × List SStow × Int × SStow) (x : Int × Int) : EVs T impl_StowCode_6_3_sv × EOs T impl_StowCode_6_3_so := ((c.1, (), x.1, c.2.1, c.2.2.1, x.2, ()), ((c.2.2.2.Box.Name, c.2.2.2.Box.Weight, c.2.2.2.Box.Class, c.2.2.2.Box.Cold, c.2.2.2.Box.From, c.2.2.2.Box.To, c.2.2.2.Spot.Bay, c.2.2.2.Spot.Row, c.2.2.2.Spot.Tier, ()), ()))
def impl_StowCode_6_3_prj (y : EVs T impl_StowCode_6_3_sv × EOs T impl_StowCode_6_3_so) : (List SHatch × List SStow × Int × SStow) × (Int × Int) := ((y.1.1, y.1.2.2.2.1, y.1.2.2.2.2.1, ((⟨(⟨y.2.1.1, y.2.1.2.1, y.2.1.2.2.1, y.2.1.2.2.2.1, y.2.1.2.2.2.2.1, y.2.1.2.2.2.2.2.1⟩ : SBox), (⟨y.2.1.2.2.2.2.2.2.1, y.2.1.2.2.2.2.2.2.2.1, y.2.1.2.2.2.2.2.2.2.2.1⟩ : SSpot)⟩ : SStow) : SStow)), (y.1.2.2.1, y.1.2.2.2.2.2.1))
def impl_StowCode_6_3_b (n : Nat) {R : Type} (K : Ex → Sm.St T → Option R) (c : List SHatch × List SStow × Int × SStow) (x : Int × Int) (J : (Int × Int) → Option R) : Option R :=
  impl_StowCode_6_L3 n (fun (y1 : Int) => K (.exit 0) (stOf (T := T) [3, 5, 7] [40] [.one (.rptr 33 0), .one (.ptr 40 0 0), .one (.int .i64)] [.var [.str, .int .i64, .int .i64, .bool, .int .i64, .int .i64, .int .i64, .int .i64, .int .i64]] (c.1, (), y1, ()) ((c.2.2.2.Box.Name, c.2.2.2.Box.Weight, c.2.2.2.Box.Class, c.2.2.2.Box.Cold, c.2.2.2.Box.From, c.2.2.2.Box.To, c.2.2.2.Spot.Bay, c.2.2.2.Spot.Row, c.2.2.2.Spot.Tier, ()), ()))) (fun z0 z1 => J (z0, z1)) c.1 x.1 c.2.1 c.2.2.1 x.2 c.2.2.2
def impl_StowCode_6_3_sp (n : Nat) : LSpec T := mkSpec T ⟨[], [3, 5, 7, 10, 11, 12], [40]⟩ impl_StowCode_6_3_sv impl_StowCode_6_3_so (List SHatch × List SStow × Int × SStow) (Int × Int) impl_StowCode_6_3_emb impl_StowCode_6_3_prj (impl_StowCode_6_3_b n)
noncomputable def impl_StowCode_6_3_c : Code := ((loopCodes impl_StowCode_6_code)[0]?).getD .skip
def impl_StowCode_6_ann : Ann := fun id => bif Nat.beq id 3000003 then some ⟨[], [3, 5, 7], [40]⟩ else none
def impl_StowCode_6_Ls (n : Nat) : Nat → Option (LSpec T) := fun id => bif Nat.beq id 3 then some (impl_StowCode_6_3_sp n) else none
theorem impl_StowCode_6_3_le (n : Nat) : LoopEq (T := T) (Phi n 61) (impl_StowCode_6_Ls n) impl_StowCode_6_ann n impl_StowCode_6_3_c (impl_StowCode_6_3_sp n) := ⟨mkSpec_dec (fun y => rfl), fun c x => by kernel_rfl, fun K J c x => by kernel_rfl⟩
theorem impl_StowCode_6_tie (n : Nat) (_0 : Int) (s1 : SStow) (a2 : List SStow) (a3 : List SHatch) : evF (T := T) (Phi n 61) (impl_StowCode_6_Ls n) impl_StowCode_6_ann n Try.f92 (sg 92) [vA T 3 _0, vA T 47 s1, .ptr 34 a2, .ptr 33 a3] impl_StowCode_6_dec = impl_StowCode_6 n _0 s1 a2 a3 := by kernel_rfl
theorem impl_StowCode_6_lo (n : Nat) : LoopsOk (T := T) (Phi n 61) (impl_StowCode_6_Ls n) impl_StowCode_6_ann n impl_StowCode_6_code := loopsOk_all (cs := [impl_StowCode_6_3_c]) (by kernel_rfl) ⟨⟨_, by kernel_rfl, impl_StowCode_6_3_le n⟩, trivial⟩
theorem impl_StowCode_6_ok (n : Nat) : EntOk Try.prog (ents n) (impl_StowCode_6_ent n) := by
  intro hs ar y hg h
  replace h : impl_StowCode_6_D n ar = some y := h
  unfold impl_StowCode_6_D at h
  replace h := ocons_some h
  obtain ⟨a0, r0, rfl, h⟩ := h
  replace h := ocons_some h
  obtain ⟨a1, r1, rfl, h⟩ := h
  replace h := ocons_some h
  obtain ⟨a2, r2, rfl, h⟩ := h
  replace h := ocons_some h
  obtain ⟨a3, r3, rfl, h⟩ := h
  replace h := onil_some h
  obtain ⟨rfl, h⟩ := h
  obtain ⟨_0, qh0, h⟩ := obind_some h
  obtain ⟨s1, qh1, h⟩ := obind_some h
  obtain ⟨a2, qh2, h⟩ := obind_some h
  obtain ⟨a3, qh3, h⟩ := obind_some h
  rw [argV_eq ok qh0, argV_eq ok qh1, argP_eq qh2, argP_eq qh3]
  exact call_of (phiE_nat _ _) hs ok mixed Try.func92 (c := impl_StowCode_6_code) (by kernel_rfl) (impl_StowCode_6_lo n) (by kernel_rfl) (by kernel_rfl) (by kernel_rfl) impl_StowCode_6_de ((impl_StowCode_6_tie n _0 s1 a2 a3).trans h)
noncomputable def impl_spotOk_code : Code := match Try.f151.body with | some c => c | none => .skip
def impl_spotOk_ann : Ann := fun id => none
def impl_spotOk_Ls (n : Nat) : Nat → Option (LSpec T) := fun id => none
theorem impl_spotOk_tie (n : Nat) (s0 : SSpot) : evF (T := T) (Phi n 62) (impl_spotOk_Ls n) impl_spotOk_ann n Try.f151 (sg 151) [vA T 45 s0] impl_spotOk_dec = impl_spotOk n s0 := by kernel_rfl
theorem impl_spotOk_lo (n : Nat) : LoopsOk (T := T) (Phi n 62) (impl_spotOk_Ls n) impl_spotOk_ann n impl_spotOk_code := loopsOk_all (cs := []) (by kernel_rfl) trivial
theorem impl_spotOk_ok (n : Nat) : EntOk Try.prog (ents n) (impl_spotOk_ent n) := by
  intro hs ar y hg h
  replace h : impl_spotOk_D n ar = some y := h
  unfold impl_spotOk_D at h
  replace h := ocons_some h
  obtain ⟨a0, r0, rfl, h⟩ := h
  replace h := onil_some h
  obtain ⟨rfl, h⟩ := h
  obtain ⟨s0, qh0, h⟩ := obind_some h
  rw [argV_eq ok qh0]
  exact call_of (phiE_nat _ _) hs ok mixed Try.func151 (c := impl_spotOk_code) (by kernel_rfl) (impl_spotOk_lo n) (by kernel_rfl) (by kernel_rfl) (by kernel_rfl) impl_spotOk_de ((impl_spotOk_tie n s0).trans h)
noncomputable def impl_size_code : Code := match Try.f152.body with | some c => c | none => .skip
def impl_size_ann : Ann := fun id => none
def impl_size_Ls (n : Nat) : Nat → Option (LSpec T) := fun id => none
theorem impl_size_tie (n : Nat) (n0 : Int) : evF (T := T) (Phi n 63) (impl_size_Ls n) impl_size_ann n Try.f152 (sg 152) [vA T 3 n0] impl_size_dec = impl_size n n0 := by kernel_rfl
theorem impl_size_lo (n : Nat) : LoopsOk (T := T) (Phi n 63) (impl_size_Ls n) impl_size_ann n impl_size_code := loopsOk_all (cs := []) (by kernel_rfl) trivial
theorem impl_size_ok (n : Nat) : EntOk Try.prog (ents n) (impl_size_ent n) := by
  intro hs ar y hg h
  replace h : impl_size_D n ar = some y := h
  unfold impl_size_D at h
  replace h := ocons_some h
  obtain ⟨a0, r0, rfl, h⟩ := h
  replace h := onil_some h
  obtain ⟨rfl, h⟩ := h
  obtain ⟨n0, qh0, h⟩ := obind_some h
  rw [argV_eq ok qh0]
  exact call_of (phiE_nat _ _) hs ok mixed Try.func152 (c := impl_size_code) (by kernel_rfl) (impl_size_lo n) (by kernel_rfl) (by kernel_rfl) (by kernel_rfl) impl_size_de ((impl_size_tie n n0).trans h)
noncomputable def impl_Apart_code : Code := match Try.f153.body with | some c => c | none => .skip
def impl_Apart_ann : Ann := fun id => none
def impl_Apart_Ls (n : Nat) : Nat → Option (LSpec T) := fun id => none
theorem impl_Apart_tie (n : Nat) (a0 : Int) (b1 : Int) : evF (T := T) (Phi n 64) (impl_Apart_Ls n) impl_Apart_ann n Try.f153 (sg 153) [vA T 3 a0, vA T 3 b1] impl_Apart_dec = impl_Apart n a0 b1 := by kernel_rfl
theorem impl_Apart_lo (n : Nat) : LoopsOk (T := T) (Phi n 64) (impl_Apart_Ls n) impl_Apart_ann n impl_Apart_code := loopsOk_all (cs := []) (by kernel_rfl) trivial
theorem impl_Apart_ok (n : Nat) : EntOk Try.prog (ents n) (impl_Apart_ent n) := by
  intro hs ar y hg h
  replace h : impl_Apart_D n ar = some y := h
  unfold impl_Apart_D at h
  replace h := ocons_some h
  obtain ⟨a0, r0, rfl, h⟩ := h
  replace h := ocons_some h
  obtain ⟨a1, r1, rfl, h⟩ := h
  replace h := onil_some h
  obtain ⟨rfl, h⟩ := h
  obtain ⟨a0, qh0, h⟩ := obind_some h
  obtain ⟨b1, qh1, h⟩ := obind_some h
  rw [argV_eq ok qh0, argV_eq ok qh1]
  exact call_of (phiE_nat _ _) hs ok mixed Try.func153 (c := impl_Apart_code) (by kernel_rfl) (impl_Apart_lo n) (by kernel_rfl) (by kernel_rfl) (by kernel_rfl) impl_Apart_de ((impl_Apart_tie n a0 b1).trans h)
noncomputable def impl_KeepsApart_code : Code := match Try.f95.body with | some c => c | none => .skip
def impl_KeepsApart_ann : Ann := fun id => none
def impl_KeepsApart_Ls (n : Nat) : Nat → Option (LSpec T) := fun id => none
theorem impl_KeepsApart_tie (n : Nat) (a0 : SBox) (sa1 : SSpot) (b2 : SBox) (sb3 : SSpot) : evF (T := T) (Phi n 65) (impl_KeepsApart_Ls n) impl_KeepsApart_ann n Try.f95 (sg 95) [vA T 32 a0, vA T 45 sa1, vA T 32 b2, vA T 45 sb3] impl_KeepsApart_dec = impl_KeepsApart n a0 sa1 b2 sb3 := by kernel_rfl
theorem impl_KeepsApart_lo (n : Nat) : LoopsOk (T := T) (Phi n 65) (impl_KeepsApart_Ls n) impl_KeepsApart_ann n impl_KeepsApart_code := loopsOk_all (cs := []) (by kernel_rfl) trivial
theorem impl_KeepsApart_ok (n : Nat) : EntOk Try.prog (ents n) (impl_KeepsApart_ent n) := by
  intro hs ar y hg h
  replace h : impl_KeepsApart_D n ar = some y := h
  unfold impl_KeepsApart_D at h
  replace h := ocons_some h
  obtain ⟨a0, r0, rfl, h⟩ := h
  replace h := ocons_some h
  obtain ⟨a1, r1, rfl, h⟩ := h
  replace h := ocons_some h
  obtain ⟨a2, r2, rfl, h⟩ := h
  replace h := ocons_some h
  obtain ⟨a3, r3, rfl, h⟩ := h
  replace h := onil_some h
  obtain ⟨rfl, h⟩ := h
  obtain ⟨a0, qh0, h⟩ := obind_some h
  obtain ⟨sa1, qh1, h⟩ := obind_some h
  obtain ⟨b2, qh2, h⟩ := obind_some h
  obtain ⟨sb3, qh3, h⟩ := obind_some h
  rw [argV_eq ok qh0, argV_eq ok qh1, argV_eq ok qh2, argV_eq ok qh3]
  exact call_of (phiE_nat _ _) hs ok mixed Try.func95 (c := impl_KeepsApart_code) (by kernel_rfl) (impl_KeepsApart_lo n) (by kernel_rfl) (by kernel_rfl) (by kernel_rfl) impl_KeepsApart_de ((impl_KeepsApart_tie n a0 sa1 b2 sb3).trans h)
noncomputable def impl_StowCode_7_1_code : Code := match Try.f94.body with | some c => c | none => .skip
def impl_StowCode_7_1_ann : Ann := fun id => none
def impl_StowCode_7_1_Ls (n : Nat) : Nat → Option (LSpec T) := fun id => none
theorem impl_StowCode_7_1_tie (n : Nat) (x0 : SStow) (a1 : SStow) : evF (T := T) (Phi n 66) (impl_StowCode_7_1_Ls n) impl_StowCode_7_1_ann n Try.f94 (sg 94) [vA T 47 x0, .ptr 47 a1] impl_StowCode_7_1_dec = impl_StowCode_7_1 n x0 a1 := by kernel_rfl
theorem impl_StowCode_7_1_lo (n : Nat) : LoopsOk (T := T) (Phi n 66) (impl_StowCode_7_1_Ls n) impl_StowCode_7_1_ann n impl_StowCode_7_1_code := loopsOk_all (cs := []) (by kernel_rfl) trivial
theorem impl_StowCode_7_1_ok (n : Nat) : EntOk Try.prog (ents n) (impl_StowCode_7_1_ent n) := by
  intro hs ar y hg h
  replace h : impl_StowCode_7_1_D n ar = some y := h
  unfold impl_StowCode_7_1_D at h
  replace h := ocons_some h
  obtain ⟨a0, r0, rfl, h⟩ := h
  replace h := ocons_some h
  obtain ⟨a1, r1, rfl, h⟩ := h
  replace h := onil_some h
  obtain ⟨rfl, h⟩ := h
  obtain ⟨x0, qh0, h⟩ := obind_some h
  obtain ⟨a1, qh1, h⟩ := obind_some h
  rw [argV_eq ok qh0, argP_eq qh1]
  exact call_of (phiE_nat _ _) hs ok mixed Try.func94 (c := impl_StowCode_7_1_code) (by kernel_rfl) (impl_StowCode_7_1_lo n) (by kernel_rfl) (by kernel_rfl) (by kernel_rfl) impl_StowCode_7_1_de ((impl_StowCode_7_1_tie n x0 a1).trans h)
noncomputable def slices_IndexFunc_impl_Stow_impl_Stow__impl_StowCode_7_1_code : Code := match Try.f147.body with | some c => c | none => .skip
def slices_IndexFunc_impl_Stow_impl_Stow__impl_StowCode_7_1_2_sv : List Sv := [.one (.arr 47), .one (.fnr 94 [47]), .one (.int .i64), .one (.int .i64)]
def slices_IndexFunc_impl_Stow_impl_Stow__impl_StowCode_7_1_2_so : List So := []
def slices_IndexFunc_impl_Stow_impl_Stow__impl_StowCode_7_1_2_emb (c : List SStow × SStow × Int) (x : Int) : EVs T slices_IndexFunc_impl_Stow_impl_Stow__impl_StowCode_7_1_2_sv × EOs T slices_IndexFunc_impl_Stow_impl_Stow__impl_StowCode_7_1_2_so := ((c.1, (c.2.1, ()), c.2.2, x, ()), ())
def slices_IndexFunc_impl_Stow_impl_Stow__impl_StowCode_7_1_2_prj (y : EVs T slices_IndexFunc_impl_Stow_impl_Stow__impl_StowCode_7_1_2_sv × EOs T slices_IndexFunc_impl_Stow_impl_Stow__impl_StowCode_7_1_2_so) : (List SStow × SStow × Int) × Int := ((y.1.1, y.1.2.1.1, y.1.2.2.1), (y.1.2.2.2.1))
def slices_IndexFunc_impl_Stow_impl_Stow__impl_StowCode_7_1_2_b (n : Nat) {R : Type} (K : Ex → Sm.St T → Option R) (c : List SStow × SStow × Int) (x : Int) (J : Int → Option R) : Option R :=
  slices_IndexFunc_impl_Stow_impl_Stow__impl_StowCode_7_1_L2 n (K (.exit 0) (stOf (T := T) [] [] [] [] () ())) (fun (y0 : Int) => K .ret (stOf (T := T) [4] [] [.one (.int .i64)] [] (y0, ()) ())) J c.1 c.2.1 c.2.2 x
def slices_IndexFunc_impl_Stow_impl_Stow__impl_StowCode_7_1_2_sp (n : Nat) : LSpec T := mkSpec T ⟨[], [0, 1, 7, 8], []⟩ slices_IndexFunc_impl_Stow_impl_Stow__impl_StowCode_7_1_2_sv slices_IndexFunc_impl_Stow_impl_Stow__impl_StowCode_7_1_2_so (List SStow × SStow × Int) (Int) slices_IndexFunc_impl_Stow_impl_Stow__impl_StowCode_7_1_2_emb slices_IndexFunc_impl_Stow_impl_Stow__impl_StowCode_7_1_2_prj (slices_IndexFunc_impl_Stow_impl_Stow__impl_StowCode_7_1_2_b n)
noncomputable def slices_IndexFunc_impl_Stow_impl_Stow__impl_StowCode_7_1_2_c : Code := ((loopCodes slices_IndexFunc_impl_Stow_impl_Stow__impl_StowCode_7_1_code)[0]?).getD .skip
def slices_IndexFunc_impl_Stow_impl_Stow__impl_StowCode_7_1_ann : Ann := fun id => bif Nat.beq id 3000002 then some ⟨[], [], []⟩ else bif Nat.beq id 2000002 then some ⟨[], [4], []⟩ else none
def slices_IndexFunc_impl_Stow_impl_Stow__impl_StowCode_7_1_Ls (n : Nat) : Nat → Option (LSpec T) := fun id => bif Nat.beq id 2 then some (slices_IndexFunc_impl_Stow_impl_Stow__impl_StowCode_7_1_2_sp n) else none
theorem slices_IndexFunc_impl_Stow_impl_Stow__impl_StowCode_7_1_2_le (n : Nat) : LoopEq (T := T) (Phi n 67) (slices_IndexFunc_impl_Stow_impl_Stow__impl_StowCode_7_1_Ls n) slices_IndexFunc_impl_Stow_impl_Stow__impl_StowCode_7_1_ann n slices_IndexFunc_impl_Stow_impl_Stow__impl_StowCode_7_1_2_c (slices_IndexFunc_impl_Stow_impl_Stow__impl_StowCode_7_1_2_sp n) := ⟨mkSpec_dec (fun y => rfl), fun c x => by kernel_rfl, fun K J c x => by kernel_rfl⟩
theorem slices_IndexFunc_impl_Stow_impl_Stow__impl_StowCode_7_1_tie (n : Nat) (s0 : List SStow) (f1c0 : SStow) : evF (T := T) (Phi n 67) (slices_IndexFunc_impl_Stow_impl_Stow__impl_StowCode_7_1_Ls n) slices_IndexFunc_impl_Stow_impl_Stow__impl_StowCode_7_1_ann n Try.f147 (sg 147) [vA T 34 s0, .fn 94 [.ptr 47 f1c0]] slices_IndexFunc_impl_Stow_impl_Stow__impl_StowCode_7_1_dec = slices_IndexFunc_impl_Stow_impl_Stow__impl_StowCode_7_1 n s0 f1c0 := by kernel_rfl
theorem slices_IndexFunc_impl_Stow_impl_Stow__impl_StowCode_7_1_lo (n : Nat) : LoopsOk (T := T) (Phi n 67) (slices_IndexFunc_impl_Stow_impl_Stow__impl_StowCode_7_1_Ls n) slices_IndexFunc_impl_Stow_impl_Stow__impl_StowCode_7_1_ann n slices_IndexFunc_impl_Stow_impl_Stow__impl_StowCode_7_1_code := loopsOk_all (cs := [slices_IndexFunc_impl_Stow_impl_Stow__impl_StowCode_7_1_2_c]) (by kernel_rfl) ⟨⟨_, by kernel_rfl, slices_IndexFunc_impl_Stow_impl_Stow__impl_StowCode_7_1_2_le n⟩, trivial⟩
theorem slices_IndexFunc_impl_Stow_impl_Stow__impl_StowCode_7_1_ok (n : Nat) : EntOk Try.prog (ents n) (slices_IndexFunc_impl_Stow_impl_Stow__impl_StowCode_7_1_ent n) := by
  intro hs ar y hg h
  replace h : slices_IndexFunc_impl_Stow_impl_Stow__impl_StowCode_7_1_D n ar = some y := h
  unfold slices_IndexFunc_impl_Stow_impl_Stow__impl_StowCode_7_1_D at h
  split at h
  · obtain ⟨s0, qh0, h⟩ := obind_some h
    obtain ⟨f1c0, qh1, h⟩ := obind_some h
    rw [argV_eq ok qh0, argP_eq qh1] at hg ⊢
    cases (show [_] = [94] from natsEq_eq hg)
    exact call_of (phiE_nat _ _) hs ok mixed Try.func147 (c := slices_IndexFunc_impl_Stow_impl_Stow__impl_StowCode_7_1_code) (by kernel_rfl) (slices_IndexFunc_impl_Stow_impl_Stow__impl_StowCode_7_1_lo n) (by kernel_rfl) (by kernel_rfl) (by kernel_rfl) slices_IndexFunc_impl_Stow_impl_Stow__impl_StowCode_7_1_de ((slices_IndexFunc_impl_Stow_impl_Stow__impl_StowCode_7_1_tie n s0 f1c0).trans h)
  · cases h
noncomputable def slices_ContainsFunc_impl_Stow_impl_Stow__impl_StowCode_7_1_code : Code := match Try.f85.body with | some c => c | none => .skip
def slices_ContainsFunc_impl_Stow_impl_Stow__impl_StowCode_7_1_ann : Ann := fun id => none
def slices_ContainsFunc_impl_Stow_impl_Stow__impl_StowCode_7_1_Ls (n : Nat) : Nat → Option (LSpec T) := fun id => none
theorem slices_ContainsFunc_impl_Stow_impl_Stow__impl_StowCode_7_1_tie (n : Nat) (s0 : List SStow) (f1c0 : SStow) : evF (T := T) (Phi n 68) (slices_ContainsFunc_impl_Stow_impl_Stow__impl_StowCode_7_1_Ls n) slices_ContainsFunc_impl_Stow_impl_Stow__impl_StowCode_7_1_ann n Try.f85 (sg 85) [vA T 34 s0, .fn 94 [.ptr 47 f1c0]] slices_ContainsFunc_impl_Stow_impl_Stow__impl_StowCode_7_1_dec = slices_ContainsFunc_impl_Stow_impl_Stow__impl_StowCode_7_1 n s0 f1c0 := by kernel_rfl
theorem slices_ContainsFunc_impl_Stow_impl_Stow__impl_StowCode_7_1_lo (n : Nat) : LoopsOk (T := T) (Phi n 68) (slices_ContainsFunc_impl_Stow_impl_Stow__impl_StowCode_7_1_Ls n) slices_ContainsFunc_impl_Stow_impl_Stow__impl_StowCode_7_1_ann n slices_ContainsFunc_impl_Stow_impl_Stow__impl_StowCode_7_1_code := loopsOk_all (cs := []) (by kernel_rfl) trivial
theorem slices_ContainsFunc_impl_Stow_impl_Stow__impl_StowCode_7_1_ok (n : Nat) : EntOk Try.prog (ents n) (slices_ContainsFunc_impl_Stow_impl_Stow__impl_StowCode_7_1_ent n) := by
  intro hs ar y hg h
  replace h : slices_ContainsFunc_impl_Stow_impl_Stow__impl_StowCode_7_1_D n ar = some y := h
  unfold slices_ContainsFunc_impl_Stow_impl_Stow__impl_StowCode_7_1_D at h
  split at h
  · obtain ⟨s0, qh0, h⟩ := obind_some h
    obtain ⟨f1c0, qh1, h⟩ := obind_some h
    rw [argV_eq ok qh0, argP_eq qh1] at hg ⊢
    cases (show [_] = [94] from natsEq_eq hg)
    exact call_of (phiE_nat _ _) hs ok mixed Try.func85 (c := slices_ContainsFunc_impl_Stow_impl_Stow__impl_StowCode_7_1_code) (by kernel_rfl) (slices_ContainsFunc_impl_Stow_impl_Stow__impl_StowCode_7_1_lo n) (by kernel_rfl) (by kernel_rfl) (by kernel_rfl) slices_ContainsFunc_impl_Stow_impl_Stow__impl_StowCode_7_1_de ((slices_ContainsFunc_impl_Stow_impl_Stow__impl_StowCode_7_1_tie n s0 f1c0).trans h)
  · cases h
noncomputable def impl_StowCode_7_code : Code := match Try.f93.body with | some c => c | none => .skip
def impl_StowCode_7_ann : Ann := fun id => none
def impl_StowCode_7_Ls (n : Nat) : Nat → Option (LSpec T) := fun id => none
theorem impl_StowCode_7_tie (n : Nat) (i0 : Int) (s1 : SStow) (a2 : List SStow) : evF (T := T) (Phi n 69) (impl_StowCode_7_Ls n) impl_StowCode_7_ann n Try.f93 (sg 93) [vA T 3 i0, vA T 47 s1, .ptr 34 a2] impl_StowCode_7_dec = impl_StowCode_7 n i0 s1 a2 := by kernel_rfl
theorem impl_StowCode_7_lo (n : Nat) : LoopsOk (T := T) (Phi n 69) (impl_StowCode_7_Ls n) impl_StowCode_7_ann n impl_StowCode_7_code := loopsOk_all (cs := []) (by kernel_rfl) trivial
theorem impl_StowCode_7_ok (n : Nat) : EntOk Try.prog (ents n) (impl_StowCode_7_ent n) := by
  intro hs ar y hg h
  replace h : impl_StowCode_7_D n ar = some y := h
  unfold impl_StowCode_7_D at h
  replace h := ocons_some h
  obtain ⟨a0, r0, rfl, h⟩ := h
  replace h := ocons_some h
  obtain ⟨a1, r1, rfl, h⟩ := h
  replace h := ocons_some h
  obtain ⟨a2, r2, rfl, h⟩ := h
  replace h := onil_some h
  obtain ⟨rfl, h⟩ := h
  obtain ⟨i0, qh0, h⟩ := obind_some h
  obtain ⟨s1, qh1, h⟩ := obind_some h
  obtain ⟨a2, qh2, h⟩ := obind_some h
  rw [argV_eq ok qh0, argV_eq ok qh1, argP_eq qh2]
  exact call_of (phiE_nat _ _) hs ok mixed Try.func93 (c := impl_StowCode_7_code) (by kernel_rfl) (impl_StowCode_7_lo n) (by kernel_rfl) (by kernel_rfl) (by kernel_rfl) impl_StowCode_7_de ((impl_StowCode_7_tie n i0 s1 a2).trans h)
noncomputable def impl_StowCode_code : Code := match Try.f21.body with | some c => c | none => .skip
def impl_StowCode_4_sv : List Sv := [.one (.rptr 34 0), .one (.own 3000000 117 false), .one (.int .i64), .one (.int .i64)]
def impl_StowCode_4_so : List So := [.arrS 117]
def impl_StowCode_4_emb (c : List SStow × Int × List SAnon117) (x : Int) : EVs T impl_StowCode_4_sv × EOs T impl_StowCode_4_so := ((c.1, (), c.2.1, x, ()), (c.2.2, ()))
def impl_StowCode_4_prj (y : EVs T impl_StowCode_4_sv × EOs T impl_StowCode_4_so) : (List SStow × Int × List SAnon117) × Int := ((y.1.1, y.1.2.2.1, y.2.1), (y.1.2.2.2.1))
def impl_StowCode_4_b (n : Nat) {R : Type} (K : Ex → Sm.St T → Option R) (c : List SStow × Int × List SAnon117) (x : Int) (J : Int → Option R) : Option R :=
  impl_StowCode_L4 n (K (.exit 0) (stOf (T := T) [] [] [] [] () ())) (fun (y0 : Int) (y1 : Int) => K .ret (stOf (T := T) [4, 5] [] [.one (.int .i64), .one (.int .i64)] [] (y0, y1, ()) ())) J c.1 c.2.1 x c.2.2
def impl_StowCode_4_sp (n : Nat) : LSpec T := mkSpec T ⟨[((.reg 31), 3000000, 117)], [3, 31, 32, 33], [3000000]⟩ impl_StowCode_4_sv impl_StowCode_4_so (List SStow × Int × List SAnon117) (Int) impl_StowCode_4_emb impl_StowCode_4_prj (impl_StowCode_4_b n)
noncomputable def impl_StowCode_4_c : Code := ((loopCodes impl_StowCode_code)[0]?).getD .skip
def impl_StowCode_7_sv : List Sv := [.one (.rptr 34 0), .one (.ptr 56 0 0), .one (.own 3000000 117 false), .one (.int .i64), .one (.int .i64), .one (.arr 47), .one (.int .i64), .one (.int .i64)]
def impl_StowCode_7_so : List So := [.var [.int .i64, .fnd 116], .arrS 117]
def impl_StowCode_7_emb (c : List SStow × Int × Int × List SStow × Int × SAnon117 × List SAnon117) (x : Int) : EVs T impl_StowCode_7_sv × EOs T impl_StowCode_7_so := ((c.1, (), (), c.2.1, c.2.2.1, c.2.2.2.1, c.2.2.2.2.1, x, ()), ((c.2.2.2.2.2.1.code, c.2.2.2.2.2.1.is, ()), c.2.2.2.2.2.2, ()))
def impl_StowCode_7_prj (y : EVs T impl_StowCode_7_sv × EOs T impl_StowCode_7_so) : (List SStow × Int × Int × List SStow × Int × SAnon117 × List SAnon117) × Int := ((y.1.1, y.1.2.2.2.1, y.1.2.2.2.2.1, y.1.2.2.2.2.2.1, y.1.2.2.2.2.2.2.1, ((⟨y.2.1.1, y.2.1.2.1⟩ : SAnon117) : SAnon117), y.2.2.1), (y.1.2.2.2.2.2.2.2.1))
def impl_StowCode_7_b (n : Nat) {R : Type} (K : Ex → Sm.St T → Option R) (c : List SStow × Int × Int × List SStow × Int × SAnon117 × List SAnon117) (x : Int) (J : Int → Option R) : Option R :=
  impl_StowCode_L7 n (K (.exit 2) (stOf (T := T) [3, 31, 32, 33] [3000000] [.one (.rptr 34 0), .one (.own 3000000 117 false), .one (.int .i64), .one (.int .i64)] [.arrS 117] (c.1, (), c.2.1, c.2.2.1, ()) (c.2.2.2.2.2.2, ()))) (fun (y0 : Int) (y1 : Int) => K .ret (stOf (T := T) [4, 5] [] [.one (.int .i64), .one (.int .i64)] [] (y0, y1, ()) ())) J c.1 c.2.1 c.2.2.1 c.2.2.2.1 c.2.2.2.2.1 x c.2.2.2.2.2.1 c.2.2.2.2.2.2
def impl_StowCode_7_sp (n : Nat) : LSpec T := mkSpec T ⟨[((.reg 31), 3000000, 117)], [3, 7, 31, 32, 33, 37, 38, 39], [56, 3000000]⟩ impl_StowCode_7_sv impl_StowCode_7_so (List SStow × Int × Int × List SStow × Int × SAnon117 × List SAnon117) (Int) impl_StowCode_7_emb impl_StowCode_7_prj (impl_StowCode_7_b n)
noncomputable def impl_StowCode_7_c : Code := ((loopCodes impl_StowCode_code)[1]?).getD .skip
def impl_StowCode_ann : Ann := fun id => bif Nat.beq id 3000004 then some ⟨[], [], []⟩ else bif Nat.beq id 2000004 then some ⟨[], [4, 5], []⟩ else bif Nat.beq id 5000007 then some ⟨[((.reg 31), 3000000, 117)], [3, 31, 32, 33], [3000000]⟩ else bif Nat.beq id 2000007 then some ⟨[], [4, 5], []⟩ else bif Nat.beq id 3 then some ⟨[((.reg 2), 33, 999997), ((.reg 3), 34, 999997)], [2, 3], []⟩ else none
def impl_StowCode_Ls (n : Nat) : Nat → Option (LSpec T) := fun id => bif Nat.beq id 4 then some (impl_StowCode_4_sp n) else bif Nat.beq id 7 then some (impl_StowCode_7_sp n) else none
theorem impl_StowCode_4_le (n : Nat) : LoopEq (T := T) (Phi n 70) (impl_StowCode_Ls n) impl_StowCode_ann n impl_StowCode_4_c (impl_StowCode_4_sp n) := ⟨mkSpec_dec (fun y => rfl), fun c x => by kernel_rfl, fun K J c x => by kernel_rfl⟩
theorem impl_StowCode_7_le (n : Nat) : LoopEq (T := T) (Phi n 70) (impl_StowCode_Ls n) impl_StowCode_ann n impl_StowCode_7_c (impl_StowCode_7_sp n) := ⟨mkSpec_dec (fun y => rfl), fun c x => by kernel_rfl, fun K J c x => by kernel_rfl⟩
theorem impl_StowCode_tie (n : Nat) (bays0 : List SHatch) (list1 : List SStow) : evF (T := T) (Phi n 70) (impl_StowCode_Ls n) impl_StowCode_ann n Try.f21 (sg 21) [vA T 33 bays0, vA T 34 list1] impl_StowCode_dec = impl_StowCode n bays0 list1 := by kernel_rfl
theorem impl_StowCode_lo (n : Nat) : LoopsOk (T := T) (Phi n 70) (impl_StowCode_Ls n) impl_StowCode_ann n impl_StowCode_code := loopsOk_all (cs := [impl_StowCode_4_c, impl_StowCode_7_c]) (by kernel_rfl) ⟨⟨_, by kernel_rfl, impl_StowCode_4_le n⟩, ⟨_, by kernel_rfl, impl_StowCode_7_le n⟩, trivial⟩
theorem impl_StowCode_ok (n : Nat) : EntOk Try.prog (ents n) (impl_StowCode_ent n) := by
  intro hs ar y hg h
  replace h : impl_StowCode_D n ar = some y := h
  unfold impl_StowCode_D at h
  replace h := ocons_some h
  obtain ⟨a0, r0, rfl, h⟩ := h
  replace h := ocons_some h
  obtain ⟨a1, r1, rfl, h⟩ := h
  replace h := onil_some h
  obtain ⟨rfl, h⟩ := h
  obtain ⟨bays0, qh0, h⟩ := obind_some h
  obtain ⟨list1, qh1, h⟩ := obind_some h
  rw [argV_eq ok qh0, argV_eq ok qh1]
  exact call_of (phiE_nat _ _) hs ok mixed Try.func21 (c := impl_StowCode_code) (by kernel_rfl) (impl_StowCode_lo n) (by kernel_rfl) (by kernel_rfl) (by kernel_rfl) impl_StowCode_de ((impl_StowCode_tie n bays0 list1).trans h)
noncomputable def impl_over_code : Code := match Try.f98.body with | some c => c | none => .skip
def impl_over_ann : Ann := fun id => none
def impl_over_Ls (n : Nat) : Nat → Option (LSpec T) := fun id => none
theorem impl_over_tie (n : Nat) (a0 : SSpot) (b1 : SSpot) : evF (T := T) (Phi n 71) (impl_over_Ls n) impl_over_ann n Try.f98 (sg 98) [vA T 45 a0, vA T 45 b1] impl_over_dec = impl_over n a0 b1 := by kernel_rfl
theorem impl_over_lo (n : Nat) : LoopsOk (T := T) (Phi n 71) (impl_over_Ls n) impl_over_ann n impl_over_code := loopsOk_all (cs := []) (by kernel_rfl) trivial
theorem impl_over_ok (n : Nat) : EntOk Try.prog (ents n) (impl_over_ent n) := by
  intro hs ar y hg h
  replace h : impl_over_D n ar = some y := h
  unfold impl_over_D at h
  replace h := ocons_some h
  obtain ⟨a0, r0, rfl, h⟩ := h
  replace h := ocons_some h
  obtain ⟨a1, r1, rfl, h⟩ := h
  replace h := onil_some h
  obtain ⟨rfl, h⟩ := h
  obtain ⟨a0, qh0, h⟩ := obind_some h
  obtain ⟨b1, qh1, h⟩ := obind_some h
  rw [argV_eq ok qh0, argV_eq ok qh1]
  exact call_of (phiE_nat _ _) hs ok mixed Try.func98 (c := impl_over_code) (by kernel_rfl) (impl_over_lo n) (by kernel_rfl) (by kernel_rfl) (by kernel_rfl) impl_over_de ((impl_over_tie n a0 b1).trans h)
noncomputable def impl_own_int_code : Code := match Try.f99.body with | some c => c | none => .skip
def impl_own_int_ann : Ann := fun id => none
def impl_own_int_Ls (n : Nat) : Nat → Option (LSpec T) := fun id => none
theorem impl_own_int_tie (n : Nat) (l0 : List Int) : evF (T := T) (Phi n 72) (impl_own_int_Ls n) impl_own_int_ann n Try.f99 (sg 99) [vA T 41 l0] impl_own_int_dec = impl_own_int n l0 := by kernel_rfl
theorem impl_own_int_lo (n : Nat) : LoopsOk (T := T) (Phi n 72) (impl_own_int_Ls n) impl_own_int_ann n impl_own_int_code := loopsOk_all (cs := []) (by kernel_rfl) trivial
theorem impl_own_int_ok (n : Nat) : EntOk Try.prog (ents n) (impl_own_int_ent n) := by
  intro hs ar y hg h
  replace h : impl_own_int_D n ar = some y := h
  unfold impl_own_int_D at h
  replace h := ocons_some h
  obtain ⟨a0, r0, rfl, h⟩ := h
  replace h := onil_some h
  obtain ⟨rfl, h⟩ := h
  obtain ⟨l0, qh0, h⟩ := obind_some h
  rw [argV_eq ok qh0]
  exact call_of (phiE_nat _ _) hs ok mixed Try.func99 (c := impl_own_int_code) (by kernel_rfl) (impl_own_int_lo n) (by kernel_rfl) (by kernel_rfl) (by kernel_rfl) impl_own_int_de ((impl_own_int_tie n l0).trans h)
noncomputable def impl_Shifts_code : Code := match Try.f23.body with | some c => c | none => .skip
def impl_Shifts_5_sv : List Sv := [.one (.arr 47), .one (.int .i64), .one (.own 3000000 3 false), .one (.arr 47), .one (.int .i64), .one (.int .i64)]
def impl_Shifts_5_so : List So := [.arr 3 false]
def impl_Shifts_5_emb (c : List SStow × Int × List SStow × Int) (x : Int × List Int) : EVs T impl_Shifts_5_sv × EOs T impl_Shifts_5_so := ((c.1, c.2.1, (), c.2.2.1, c.2.2.2, x.1, ()), (x.2, ()))
def impl_Shifts_5_prj (y : EVs T impl_Shifts_5_sv × EOs T impl_Shifts_5_so) : (List SStow × Int × List SStow × Int) × (Int × List Int) := ((y.1.1, y.1.2.1, y.1.2.2.2.1, y.1.2.2.2.2.1), (y.1.2.2.2.2.2.1, y.2.1))
def impl_Shifts_5_b (n : Nat) {R : Type} (K : Ex → Sm.St T → Option R) (c : List SStow × Int × List SStow × Int) (x : Int × List Int) (J : (Int × List Int) → Option R) : Option R :=
  impl_Shifts_L5 n (fun (y0 : List Int) => K (.exit 0) (stOf (T := T) [6] [3000000] [.one (.own 3000000 3 false)] [.arr 3 false] ((), ()) (y0, ()))) (fun (y0 : Bool) (y1 : List Int) => K .ret (stOf (T := T) [4, 5] [3000001] [.one (.own 3000001 3 false), .one (.bool)] [.arr 3 false] ((), y0, ()) (y1, ()))) (fun z0 z1 => J (z0, z1)) c.1 c.2.1 c.2.2.1 c.2.2.2 x.1 x.2
def impl_Shifts_5_sp (n : Nat) : LSpec T := mkSpec T ⟨[((.reg 6), 3000000, 3)], [0, 1, 6, 20, 21, 22], [3000000]⟩ impl_Shifts_5_sv impl_Shifts_5_so (List SStow × Int × List SStow × Int) (Int × List Int) impl_Shifts_5_emb impl_Shifts_5_prj (impl_Shifts_5_b n)
noncomputable def impl_Shifts_5_c : Code := ((loopCodes impl_Shifts_code)[0]?).getD .skip
def impl_Shifts_9_sv : List Sv := [.one (.arr 47), .one (.int .i64), .one (.own 3000000 3 false), .one (.int .i64), .one (.ptr 64 0 0), .one (.bool), .one (.arr 47), .one (.int .i64), .one (.int .i64), .one (.arr 47), .one (.int .i64), .one (.int .i64)]
def impl_Shifts_9_so : List So := [.arr 3 false, .var [.str, .int .i64, .int .i64, .bool, .int .i64, .int .i64, .int .i64, .int .i64, .int .i64]]
def impl_Shifts_9_emb (c : List SStow × Int × Int × List SStow × Int × Int × List SStow × Int × List Int × SStow) (x : Bool × Int) : EVs T impl_Shifts_9_sv × EOs T impl_Shifts_9_so := ((c.1, c.2.1, (), c.2.2.1, (), x.1, c.2.2.2.1, c.2.2.2.2.1, c.2.2.2.2.2.1, c.2.2.2.2.2.2.1, c.2.2.2.2.2.2.2.1, x.2, ()), (c.2.2.2.2.2.2.2.2.1, (c.2.2.2.2.2.2.2.2.2.Box.Name, c.2.2.2.2.2.2.2.2.2.Box.Weight, c.2.2.2.2.2.2.2.2.2.Box.Class, c.2.2.2.2.2.2.2.2.2.Box.Cold, c.2.2.2.2.2.2.2.2.2.Box.From, c.2.2.2.2.2.2.2.2.2.Box.To, c.2.2.2.2.2.2.2.2.2.Spot.Bay, c.2.2.2.2.2.2.2.2.2.Spot.Row, c.2.2.2.2.2.2.2.2.2.Spot.Tier, ()), ()))
def impl_Shifts_9_prj (y : EVs T impl_Shifts_9_sv × EOs T impl_Shifts_9_so) : (List SStow × Int × Int × List SStow × Int × Int × List SStow × Int × List Int × SStow) × (Bool × Int) := ((y.1.1, y.1.2.1, y.1.2.2.2.1, y.1.2.2.2.2.2.2.1, y.1.2.2.2.2.2.2.2.1, y.1.2.2.2.2.2.2.2.2.1, y.1.2.2.2.2.2.2.2.2.2.1, y.1.2.2.2.2.2.2.2.2.2.2.1, y.2.1, ((⟨(⟨y.2.2.1.1, y.2.2.1.2.1, y.2.2.1.2.2.1, y.2.2.1.2.2.2.1, y.2.2.1.2.2.2.2.1, y.2.2.1.2.2.2.2.2.1⟩ : SBox), (⟨y.2.2.1.2.2.2.2.2.2.1, y.2.2.1.2.2.2.2.2.2.2.1, y.2.2.1.2.2.2.2.2.2.2.2.1⟩ : SSpot)⟩ : SStow) : SStow)), (y.1.2.2.2.2.2.1, y.1.2.2.2.2.2.2.2.2.2.2.2.1))
def impl_Shifts_9_b (n : Nat) {R : Type} (K : Ex → Sm.St T → Option R) (c : List SStow × Int × Int × List SStow × Int × Int × List SStow × Int × List Int × SStow) (x : Bool × Int) (J : (Bool × Int) → Option R) : Option R :=
  impl_Shifts_L9 n (fun (y3 : Bool) => K (.exit 2) (stOf (T := T) [0, 1, 6, 7, 9, 20, 21, 22] [3000000] [.one (.arr 47), .one (.int .i64), .one (.own 3000000 3 false), .one (.int .i64), .one (.bool), .one (.arr 47), .one (.int .i64), .one (.int .i64)] [.arr 3 false] (c.1, c.2.1, (), c.2.2.1, y3, c.2.2.2.1, c.2.2.2.2.1, c.2.2.2.2.2.1, ()) (c.2.2.2.2.2.2.2.2.1, ()))) (fun (y0 : Bool) (y1 : List Int) => K .ret (stOf (T := T) [4, 5] [3000001] [.one (.own 3000001 3 false), .one (.bool)] [.arr 3 false] ((), y0, ()) (y1, ()))) (fun z0 z1 => J (z0, z1)) c.1 c.2.1 c.2.2.1 x.1 c.2.2.2.1 c.2.2.2.2.1 c.2.2.2.2.2.1 c.2.2.2.2.2.2.1 c.2.2.2.2.2.2.2.1 x.2 c.2.2.2.2.2.2.2.2.1 c.2.2.2.2.2.2.2.2.2
def impl_Shifts_9_sp (n : Nat) : LSpec T := mkSpec T ⟨[((.reg 6), 3000000, 3)], [0, 1, 6, 7, 8, 9, 20, 21, 22, 27, 28, 29], [3000000, 64]⟩ impl_Shifts_9_sv impl_Shifts_9_so (List SStow × Int × Int × List SStow × Int × Int × List SStow × Int × List Int × SStow) (Bool × Int) impl_Shifts_9_emb impl_Shifts_9_prj (impl_Shifts_9_b n)
noncomputable def impl_Shifts_9_c : Code := ((loopCodes impl_Shifts_code)[1]?).getD .skip
def impl_Shifts_ann : Ann := fun id => bif Nat.beq id 3000005 then some ⟨[((.reg 6), 3000000, 3)], [6], [3000000]⟩ else bif Nat.beq id 2000005 then some ⟨[((.reg 4), 3000001, 3)], [4, 5], [3000001]⟩ else bif Nat.beq id 5000009 then some ⟨[((.reg 6), 3000000, 3)], [0, 1, 6, 7, 9, 20, 21, 22], [3000000]⟩ else bif Nat.beq id 2000009 then some ⟨[((.reg 4), 3000001, 3)], [4, 5], [3000001]⟩ else none
def impl_Shifts_Ls (n : Nat) : Nat → Option (LSpec T) := fun id => bif Nat.beq id 5 then some (impl_Shifts_5_sp n) else bif Nat.beq id 9 then some (impl_Shifts_9_sp n) else none
theorem impl_Shifts_5_le (n : Nat) : LoopEq (T := T) (Phi n 73) (impl_Shifts_Ls n) impl_Shifts_ann n impl_Shifts_5_c (impl_Shifts_5_sp n) := ⟨mkSpec_dec (fun y => rfl), fun c x => by kernel_rfl, fun K J c x => by kernel_rfl⟩
theorem impl_Shifts_9_le (n : Nat) : LoopEq (T := T) (Phi n 73) (impl_Shifts_Ls n) impl_Shifts_ann n impl_Shifts_9_c (impl_Shifts_9_sp n) := ⟨mkSpec_dec (fun y => rfl), fun c x => by kernel_rfl, fun K J c x => by kernel_rfl⟩
theorem impl_Shifts_tie (n : Nat) (list0 : List SStow) (port1 : Int) : evF (T := T) (Phi n 73) (impl_Shifts_Ls n) impl_Shifts_ann n Try.f23 (sg 23) [vA T 34 list0, vA T 3 port1] impl_Shifts_dec = impl_Shifts n list0 port1 := by kernel_rfl
theorem impl_Shifts_lo (n : Nat) : LoopsOk (T := T) (Phi n 73) (impl_Shifts_Ls n) impl_Shifts_ann n impl_Shifts_code := loopsOk_all (cs := [impl_Shifts_5_c, impl_Shifts_9_c]) (by kernel_rfl) ⟨⟨_, by kernel_rfl, impl_Shifts_5_le n⟩, ⟨_, by kernel_rfl, impl_Shifts_9_le n⟩, trivial⟩
theorem impl_Shifts_ok (n : Nat) : EntOk Try.prog (ents n) (impl_Shifts_ent n) := by
  intro hs ar y hg h
  replace h : impl_Shifts_D n ar = some y := h
  unfold impl_Shifts_D at h
  replace h := ocons_some h
  obtain ⟨a0, r0, rfl, h⟩ := h
  replace h := ocons_some h
  obtain ⟨a1, r1, rfl, h⟩ := h
  replace h := onil_some h
  obtain ⟨rfl, h⟩ := h
  obtain ⟨list0, qh0, h⟩ := obind_some h
  obtain ⟨port1, qh1, h⟩ := obind_some h
  rw [argV_eq ok qh0, argV_eq ok qh1]
  exact call_of (phiE_nat _ _) hs ok mixed Try.func23 (c := impl_Shifts_code) (by kernel_rfl) (impl_Shifts_lo n) (by kernel_rfl) (by kernel_rfl) (by kernel_rfl) impl_Shifts_de ((impl_Shifts_tie n list0 port1).trans h)
noncomputable def impl_AtPort_code : Code := match Try.f20.body with | some c => c | none => .skip
def impl_AtPort_7_sv : List Sv := [.one (.arr 121), .one (.arr 47), .one (.int .i64), .one (.arr 47), .one (.own 3000000 47 false), .one (.own 3000001 47 false), .one (.arr 47), .one (.int .i64), .one (.int .i64)]
def impl_AtPort_7_so : List So := [.arr 47 false, .arr 47 false]
def impl_AtPort_7_emb (c : List SHatch × List SStow × Int × List SStow × List SStow × Int × List SStow) (x : Int × List SStow) : EVs T impl_AtPort_7_sv × EOs T impl_AtPort_7_so := ((c.1, c.2.1, c.2.2.1, c.2.2.2.1, (), (), c.2.2.2.2.1, c.2.2.2.2.2.1, x.1, ()), (c.2.2.2.2.2.2, x.2, ()))
def impl_AtPort_7_prj (y : EVs T impl_AtPort_7_sv × EOs T impl_AtPort_7_so) : (List SHatch × List SStow × Int × List SStow × List SStow × Int × List SStow) × (Int × List SStow) := ((y.1.1, y.1.2.1, y.1.2.2.1, y.1.2.2.2.1, y.1.2.2.2.2.2.2.1, y.1.2.2.2.2.2.2.2.1, y.2.1), (y.1.2.2.2.2.2.2.2.2.1, y.2.2.1))
def impl_AtPort_7_b (n : Nat) {R : Type} (K : Ex → Sm.St T → Option R) (c : List SHatch × List SStow × Int × List SStow × List SStow × Int × List SStow) (x : Int × List SStow) (J : (Int × List SStow) → Option R) : Option R :=
  impl_AtPort_L7 n (fun (y5 : List SStow) => K (.exit 0) (stOf (T := T) [0, 1, 2, 3, 11, 14] [3000000, 3000001] [.one (.arr 121), .one (.arr 47), .one (.int .i64), .one (.arr 47), .one (.own 3000000 47 false), .one (.own 3000001 47 false)] [.arr 47 false, .arr 47 false] (c.1, c.2.1, c.2.2.1, c.2.2.2.1, (), (), ()) (c.2.2.2.2.2.2, y5, ()))) (fun (y0 : Int) (y1 : Int) => K .ret (stOf (T := T) [8, 9, 10] [3000002] [.one (.own 3000002 47 false), .one (.int .i64), .one (.int .i64)] [.arr 47 false] ((), y0, y1, ()) (c.2.2.2.2.2.2, ()))) (fun z0 z1 => J (z0, z1)) c.1 c.2.1 c.2.2.1 c.2.2.2.1 c.2.2.2.2.1 c.2.2.2.2.2.1 x.1 c.2.2.2.2.2.2 x.2
def impl_AtPort_7_sp (n : Nat) : LSpec T := mkSpec T ⟨[((.reg 11), 3000000, 47), ((.reg 14), 3000001, 47)], [0, 1, 2, 3, 11, 14, 44, 45, 46], [3000000, 3000001]⟩ impl_AtPort_7_sv impl_AtPort_7_so (List SHatch × List SStow × Int × List SStow × List SStow × Int × List SStow) (Int × List SStow) impl_AtPort_7_emb impl_AtPort_7_prj (impl_AtPort_7_b n)
noncomputable def impl_AtPort_7_c : Code := ((loopCodes impl_AtPort_code)[0]?).getD .skip
def impl_AtPort_15_sv : List Sv := [.one (.arr 121), .one (.arr 47), .one (.int .i64), .one (.own 3000000 47 false), .one (.own 3000001 47 false), .one (.arr 47), .one (.int .i64), .one (.int .i64)]
def impl_AtPort_15_so : List So := [.arr 47 false, .arr 47 false]
def impl_AtPort_15_emb (c : List SHatch × List SStow × Int × List SStow × Int × List SStow) (x : Int × List SStow) : EVs T impl_AtPort_15_sv × EOs T impl_AtPort_15_so := ((c.1, c.2.1, c.2.2.1, (), (), c.2.2.2.1, c.2.2.2.2.1, x.1, ()), (c.2.2.2.2.2, x.2, ()))
def impl_AtPort_15_prj (y : EVs T impl_AtPort_15_sv × EOs T impl_AtPort_15_so) : (List SHatch × List SStow × Int × List SStow × Int × List SStow) × (Int × List SStow) := ((y.1.1, y.1.2.1, y.1.2.2.1, y.1.2.2.2.2.2.1, y.1.2.2.2.2.2.2.1, y.2.1), (y.1.2.2.2.2.2.2.2.1, y.2.2.1))
def impl_AtPort_15_b (n : Nat) {R : Type} (K : Ex → Sm.St T → Option R) (c : List SHatch × List SStow × Int × List SStow × Int × List SStow) (x : Int × List SStow) (J : (Int × List SStow) → Option R) : Option R :=
  impl_AtPort_L15 n (fun (y4 : List SStow) => K (.exit 2) (stOf (T := T) [0, 1, 2, 11, 14] [3000000, 3000001] [.one (.arr 121), .one (.arr 47), .one (.int .i64), .one (.own 3000000 47 false), .one (.own 3000001 47 false)] [.arr 47 false, .arr 47 false] (c.1, c.2.1, c.2.2.1, (), (), ()) (c.2.2.2.2.2, y4, ()))) (fun (y0 : Int) (y1 : Int) => K .ret (stOf (T := T) [8, 9, 10] [3000002] [.one (.own 3000002 47 false), .one (.int .i64), .one (.int .i64)] [.arr 47 false] ((), y0, y1, ()) (c.2.2.2.2.2, ()))) (fun z0 z1 => J (z0, z1)) c.1 c.2.1 c.2.2.1 c.2.2.2.1 c.2.2.2.2.1 x.1 c.2.2.2.2.2 x.2
def impl_AtPort_15_sp (n : Nat) : LSpec T := mkSpec T ⟨[((.reg 11), 3000000, 47), ((.reg 14), 3000001, 47)], [0, 1, 2, 11, 14, 73, 74, 75], [3000000, 3000001]⟩ impl_AtPort_15_sv impl_AtPort_15_so (List SHatch × List SStow × Int × List SStow × Int × List SStow) (Int × List SStow) impl_AtPort_15_emb impl_AtPort_15_prj (impl_AtPort_15_b n)
noncomputable def impl_AtPort_15_c : Code := ((loopCodes impl_AtPort_code)[1]?).getD .skip
def impl_AtPort_ann : Ann := fun id => bif Nat.beq id 3000007 then some ⟨[((.reg 11), 3000000, 47), ((.reg 14), 3000001, 47)], [0, 1, 2, 3, 11, 14], [3000000, 3000001]⟩ else bif Nat.beq id 2000007 then some ⟨[((.reg 8), 3000002, 47)], [8, 9, 10], [3000002]⟩ else bif Nat.beq id 5000015 then some ⟨[((.reg 11), 3000000, 47), ((.reg 14), 3000001, 47)], [0, 1, 2, 11, 14], [3000000, 3000001]⟩ else bif Nat.beq id 2000015 then some ⟨[((.reg 8), 3000002, 47)], [8, 9, 10], [3000002]⟩ else none
def impl_AtPort_Ls (n : Nat) : Nat → Option (LSpec T) := fun id => bif Nat.beq id 7 then some (impl_AtPort_7_sp n) else bif Nat.beq id 15 then some (impl_AtPort_15_sp n) else none
theorem impl_AtPort_7_le (n : Nat) : LoopEq (T := T) (Phi n 74) (impl_AtPort_Ls n) impl_AtPort_ann n impl_AtPort_7_c (impl_AtPort_7_sp n) := ⟨mkSpec_dec (fun y => rfl), fun c x => by kernel_rfl, fun K J c x => by kernel_rfl⟩
theorem impl_AtPort_15_le (n : Nat) : LoopEq (T := T) (Phi n 74) (impl_AtPort_Ls n) impl_AtPort_ann n impl_AtPort_15_c (impl_AtPort_15_sp n) := ⟨mkSpec_dec (fun y => rfl), fun c x => by kernel_rfl, fun K J c x => by kernel_rfl⟩
theorem impl_AtPort_tie (n : Nat) (bays0 : List SHatch) (list1 : List SStow) (port2 : Int) (plan3 : List SStow) : evF (T := T) (Phi n 74) (impl_AtPort_Ls n) impl_AtPort_ann n Try.f20 (sg 20) [vA T 33 bays0, vA T 34 list1, vA T 3 port2, vA T 34 plan3] impl_AtPort_dec = impl_AtPort n bays0 list1 port2 plan3 := by kernel_rfl
theorem impl_AtPort_lo (n : Nat) : LoopsOk (T := T) (Phi n 74) (impl_AtPort_Ls n) impl_AtPort_ann n impl_AtPort_code := loopsOk_all (cs := [impl_AtPort_7_c, impl_AtPort_15_c]) (by kernel_rfl) ⟨⟨_, by kernel_rfl, impl_AtPort_7_le n⟩, ⟨_, by kernel_rfl, impl_AtPort_15_le n⟩, trivial⟩
theorem impl_AtPort_ok (n : Nat) : EntOk Try.prog (ents n) (impl_AtPort_ent n) := by
  intro hs ar y hg h
  replace h : impl_AtPort_D n ar = some y := h
  unfold impl_AtPort_D at h
  replace h := ocons_some h
  obtain ⟨a0, r0, rfl, h⟩ := h
  replace h := ocons_some h
  obtain ⟨a1, r1, rfl, h⟩ := h
  replace h := ocons_some h
  obtain ⟨a2, r2, rfl, h⟩ := h
  replace h := ocons_some h
  obtain ⟨a3, r3, rfl, h⟩ := h
  replace h := onil_some h
  obtain ⟨rfl, h⟩ := h
  obtain ⟨bays0, qh0, h⟩ := obind_some h
  obtain ⟨list1, qh1, h⟩ := obind_some h
  obtain ⟨port2, qh2, h⟩ := obind_some h
  obtain ⟨plan3, qh3, h⟩ := obind_some h
  rw [argV_eq ok qh0, argV_eq ok qh1, argV_eq ok qh2, argV_eq ok qh3]
  exact call_of (phiE_nat _ _) hs ok mixed Try.func20 (c := impl_AtPort_code) (by kernel_rfl) (impl_AtPort_lo n) (by kernel_rfl) (by kernel_rfl) (by kernel_rfl) impl_AtPort_de ((impl_AtPort_tie n bays0 list1 port2 plan3).trans h)
noncomputable def laws_FnVoyage_code : Code := match Try.f4.body with | some c => c | none => .skip
def laws_FnVoyage_17_sv : List Sv := [.one (.arr 47), .one (.int .i64), .one (.arr 47), .one (.own 3000000 47 false), .one (.own 3000001 3 false), .one (.int .i64), .one (.int .i64)]
def laws_FnVoyage_17_so : List So := [.arr 47 false, .arr 3 false]
def laws_FnVoyage_17_emb (c : List SStow × Int × List SStow × List SStow × List Int) (x : Int × Int) : EVs T laws_FnVoyage_17_sv × EOs T laws_FnVoyage_17_so := ((c.1, c.2.1, c.2.2.1, (), (), x.1, x.2, ()), (c.2.2.2.1, c.2.2.2.2, ()))
def laws_FnVoyage_17_prj (y : EVs T laws_FnVoyage_17_sv × EOs T laws_FnVoyage_17_so) : (List SStow × Int × List SStow × List SStow × List Int) × (Int × Int) := ((y.1.1, y.1.2.1, y.1.2.2.1, y.2.1, y.2.2.1), (y.1.2.2.2.2.2.1, y.1.2.2.2.2.2.2.1))
def laws_FnVoyage_17_b (n : Nat) {R : Type} (K : Ex → Sm.St T → Option R) (c : List SStow × Int × List SStow × List SStow × List Int) (x : Int × Int) (J : (Int × Int) → Option R) : Option R :=
  laws_FnVoyage_L17 n (fun (y3 : Int) => K (.exit 0) (stOf (T := T) [4, 5, 6, 7, 16, 18] [3000000, 3000001] [.one (.arr 47), .one (.int .i64), .one (.arr 47), .one (.own 3000000 47 false), .one (.own 3000001 3 false), .one (.int .i64)] [.arr 47 false, .arr 3 false] (c.1, c.2.1, c.2.2.1, (), (), y3, ()) (c.2.2.2.1, c.2.2.2.2, ()))) (fun z0 z1 => J (z0, z1)) c.1 c.2.1 c.2.2.1 x.1 x.2 c.2.2.2.1 c.2.2.2.2
def laws_FnVoyage_17_sp (n : Nat) : LSpec T := mkSpec T ⟨[((.reg 7), 3000000, 47), ((.reg 16), 3000001, 3)], [4, 5, 6, 7, 16, 18, 19], [3000000, 3000001]⟩ laws_FnVoyage_17_sv laws_FnVoyage_17_so (List SStow × Int × List SStow × List SStow × List Int) (Int × Int) laws_FnVoyage_17_emb laws_FnVoyage_17_prj (laws_FnVoyage_17_b n)
noncomputable def laws_FnVoyage_17_c : Code := ((loopCodes laws_FnVoyage_code)[0]?).getD .skip
def laws_FnVoyage_22_sv : List Sv := [.one (.arr 47), .one (.int .i64), .one (.arr 47), .one (.own 3000000 47 false), .one (.own 3000001 3 false), .one (.int .i64), .one (.int .i64)]
def laws_FnVoyage_22_so : List So := [.arr 47 false, .arr 3 false]
def laws_FnVoyage_22_emb (c : List SStow × Int × List SStow × Int × List SStow × List Int) (x : Int) : EVs T laws_FnVoyage_22_sv × EOs T laws_FnVoyage_22_so := ((c.1, c.2.1, c.2.2.1, (), (), c.2.2.2.1, x, ()), (c.2.2.2.2.1, c.2.2.2.2.2, ()))
def laws_FnVoyage_22_prj (y : EVs T laws_FnVoyage_22_sv × EOs T laws_FnVoyage_22_so) : (List SStow × Int × List SStow × Int × List SStow × List Int) × Int := ((y.1.1, y.1.2.1, y.1.2.2.1, y.1.2.2.2.2.2.1, y.2.1, y.2.2.1), (y.1.2.2.2.2.2.2.1))
def laws_FnVoyage_22_b (n : Nat) {R : Type} (K : Ex → Sm.St T → Option R) (c : List SStow × Int × List SStow × Int × List SStow × List Int) (x : Int) (J : Int → Option R) : Option R :=
  laws_FnVoyage_L22 n (K (.exit 2) (stOf (T := T) [5, 6, 7, 18] [3000000] [.one (.int .i64), .one (.arr 47), .one (.own 3000000 47 false), .one (.int .i64)] [.arr 47 false] (c.2.1, c.2.2.1, (), c.2.2.2.1, ()) (c.2.2.2.2.1, ()))) (fun (y0 : Bool) => K .ret (stOf (T := T) [2] [] [.one (.bool)] [] (y0, ()) ())) J c.1 c.2.1 c.2.2.1 c.2.2.2.1 x c.2.2.2.2.1 c.2.2.2.2.2
def laws_FnVoyage_22_sp (n : Nat) : LSpec T := mkSpec T ⟨[((.reg 7), 3000000, 47), ((.reg 16), 3000001, 3)], [4, 5, 6, 7, 16, 18, 20], [3000000, 3000001]⟩ laws_FnVoyage_22_sv laws_FnVoyage_22_so (List SStow × Int × List SStow × Int × List SStow × List Int) (Int) laws_FnVoyage_22_emb laws_FnVoyage_22_prj (laws_FnVoyage_22_b n)
noncomputable def laws_FnVoyage_22_c : Code := ((loopCodes laws_FnVoyage_code)[1]?).getD .skip
def laws_FnVoyage_27_sv : List Sv := [.one (.arr 47), .one (.int .i64), .one (.arr 47), .one (.own 3000000 47 false), .one (.own 3000001 3 false), .one (.int .i64), .one (.int .i64), .one (.ptr 168 0 0), .one (.bool), .one (.int .i64)]
def laws_FnVoyage_27_so : List So := [.arr 47 false, .arr 3 false, .var [.str, .int .i64, .int .i64, .bool, .int .i64, .int .i64, .int .i64, .int .i64, .int .i64]]
def laws_FnVoyage_27_emb (c : List SStow × Int × List SStow × Int × Int × List SStow × List Int × SStow) (x : Bool × Int) : EVs T laws_FnVoyage_27_sv × EOs T laws_FnVoyage_27_so := ((c.1, c.2.1, c.2.2.1, (), (), c.2.2.2.1, c.2.2.2.2.1, (), x.1, x.2, ()), (c.2.2.2.2.2.1, c.2.2.2.2.2.2.1, (c.2.2.2.2.2.2.2.Box.Name, c.2.2.2.2.2.2.2.Box.Weight, c.2.2.2.2.2.2.2.Box.Class, c.2.2.2.2.2.2.2.Box.Cold, c.2.2.2.2.2.2.2.Box.From, c.2.2.2.2.2.2.2.Box.To, c.2.2.2.2.2.2.2.Spot.Bay, c.2.2.2.2.2.2.2.Spot.Row, c.2.2.2.2.2.2.2.Spot.Tier, ()), ()))
def laws_FnVoyage_27_prj (y : EVs T laws_FnVoyage_27_sv × EOs T laws_FnVoyage_27_so) : (List SStow × Int × List SStow × Int × Int × List SStow × List Int × SStow) × (Bool × Int) := ((y.1.1, y.1.2.1, y.1.2.2.1, y.1.2.2.2.2.2.1, y.1.2.2.2.2.2.2.1, y.2.1, y.2.2.1, ((⟨(⟨y.2.2.2.1.1, y.2.2.2.1.2.1, y.2.2.2.1.2.2.1, y.2.2.2.1.2.2.2.1, y.2.2.2.1.2.2.2.2.1, y.2.2.2.1.2.2.2.2.2.1⟩ : SBox), (⟨y.2.2.2.1.2.2.2.2.2.2.1, y.2.2.2.1.2.2.2.2.2.2.2.1, y.2.2.2.1.2.2.2.2.2.2.2.2.1⟩ : SSpot)⟩ : SStow) : SStow)), (y.1.2.2.2.2.2.2.2.2.1, y.1.2.2.2.2.2.2.2.2.2.1))
def laws_FnVoyage_27_b (n : Nat) {R : Type} (K : Ex → Sm.St T → Option R) (c : List SStow × Int × List SStow × Int × Int × List SStow × List Int × SStow) (x : Bool × Int) (J : (Bool × Int) → Option R) : Option R :=
  laws_FnVoyage_L27 n (fun (y5 : Bool) => K (.exit 4) (stOf (T := T) [4, 5, 6, 7, 16, 18, 20, 21, 22] [3000000, 3000001, 168] [.one (.arr 47), .one (.int .i64), .one (.arr 47), .one (.own 3000000 47 false), .one (.own 3000001 3 false), .one (.int .i64), .one (.int .i64), .one (.ptr 168 0 0), .one (.bool)] [.arr 47 false, .arr 3 false, .var [.str, .int .i64, .int .i64, .bool, .int .i64, .int .i64, .int .i64, .int .i64, .int .i64]] (c.1, c.2.1, c.2.2.1, (), (), c.2.2.2.1, c.2.2.2.2.1, (), y5, ()) (c.2.2.2.2.2.1, c.2.2.2.2.2.2.1, (c.2.2.2.2.2.2.2.Box.Name, c.2.2.2.2.2.2.2.Box.Weight, c.2.2.2.2.2.2.2.Box.Class, c.2.2.2.2.2.2.2.Box.Cold, c.2.2.2.2.2.2.2.Box.From, c.2.2.2.2.2.2.2.Box.To, c.2.2.2.2.2.2.2.Spot.Bay, c.2.2.2.2.2.2.2.Spot.Row, c.2.2.2.2.2.2.2.Spot.Tier, ()), ()))) (fun z0 z1 => J (z0, z1)) c.1 c.2.1 c.2.2.1 c.2.2.2.1 c.2.2.2.2.1 x.1 x.2 c.2.2.2.2.2.1 c.2.2.2.2.2.2.1 c.2.2.2.2.2.2.2
def laws_FnVoyage_27_sp (n : Nat) : LSpec T := mkSpec T ⟨[((.reg 7), 3000000, 47), ((.reg 16), 3000001, 3)], [4, 5, 6, 7, 16, 18, 20, 21, 22, 23], [3000000, 3000001, 168]⟩ laws_FnVoyage_27_sv laws_FnVoyage_27_so (List SStow × Int × List SStow × Int × Int × List SStow × List Int × SStow) (Bool × Int) laws_FnVoyage_27_emb laws_FnVoyage_27_prj (laws_FnVoyage_27_b n)
noncomputable def laws_FnVoyage_27_c : Code := ((loopCodes laws_FnVoyage_code)[2]?).getD .skip
def laws_FnVoyage_34_sv : List Sv := [.one (.int .i64), .one (.arr 47), .one (.own 3000000 47 false), .one (.int .i64), .one (.int .i64)]
def laws_FnVoyage_34_so : List So := [.arr 47 false]
def laws_FnVoyage_34_emb (c : Int × List SStow × Int × List SStow) (x : Int) : EVs T laws_FnVoyage_34_sv × EOs T laws_FnVoyage_34_so := ((c.1, c.2.1, (), c.2.2.1, x, ()), (c.2.2.2, ()))
def laws_FnVoyage_34_prj (y : EVs T laws_FnVoyage_34_sv × EOs T laws_FnVoyage_34_so) : (Int × List SStow × Int × List SStow) × Int := ((y.1.1, y.1.2.1, y.1.2.2.2.1, y.2.1), (y.1.2.2.2.2.1))
def laws_FnVoyage_34_b (n : Nat) {R : Type} (K : Ex → Sm.St T → Option R) (c : Int × List SStow × Int × List SStow) (x : Int) (J : Int → Option R) : Option R :=
  laws_FnVoyage_L34 n (K (.exit 6) (stOf (T := T) [6, 7, 18] [3000000] [.one (.arr 47), .one (.own 3000000 47 false), .one (.int .i64)] [.arr 47 false] (c.2.1, (), c.2.2.1, ()) (c.2.2.2, ()))) (fun (y0 : Bool) => K .ret (stOf (T := T) [2] [] [.one (.bool)] [] (y0, ()) ())) J c.1 c.2.1 c.2.2.1 x c.2.2.2
def laws_FnVoyage_34_sp (n : Nat) : LSpec T := mkSpec T ⟨[((.reg 7), 3000000, 47)], [5, 6, 7, 18, 25], [3000000]⟩ laws_FnVoyage_34_sv laws_FnVoyage_34_so (Int × List SStow × Int × List SStow) (Int) laws_FnVoyage_34_emb laws_FnVoyage_34_prj (laws_FnVoyage_34_b n)
noncomputable def laws_FnVoyage_34_c : Code := ((loopCodes laws_FnVoyage_code)[3]?).getD .skip
def laws_FnVoyage_ann : Ann := fun id => bif Nat.beq id 3000017 then some ⟨[((.reg 7), 3000000, 47), ((.reg 16), 3000001, 3)], [4, 5, 6, 7, 16, 18], [3000000, 3000001]⟩ else bif Nat.beq id 5000022 then some ⟨[((.reg 7), 3000000, 47)], [5, 6, 7, 18], [3000000]⟩ else bif Nat.beq id 2000022 then some ⟨[], [2], []⟩ else bif Nat.beq id 7000027 then some ⟨[((.reg 7), 3000000, 47), ((.reg 16), 3000001, 3)], [4, 5, 6, 7, 16, 18, 20, 21, 22], [3000000, 3000001, 168]⟩ else bif Nat.beq id 9000034 then some ⟨[((.reg 7), 3000000, 47)], [6, 7, 18], [3000000]⟩ else bif Nat.beq id 2000034 then some ⟨[], [2], []⟩ else none
def laws_FnVoyage_Ls (n : Nat) : Nat → Option (LSpec T) := fun id => bif Nat.beq id 17 then some (laws_FnVoyage_17_sp n) else bif Nat.beq id 22 then some (laws_FnVoyage_22_sp n) else bif Nat.beq id 27 then some (laws_FnVoyage_27_sp n) else bif Nat.beq id 34 then some (laws_FnVoyage_34_sp n) else none
theorem laws_FnVoyage_17_le (n : Nat) : LoopEq (T := T) (Phi n 75) (laws_FnVoyage_Ls n) laws_FnVoyage_ann n laws_FnVoyage_17_c (laws_FnVoyage_17_sp n) := ⟨mkSpec_dec (fun y => rfl), fun c x => by kernel_rfl, fun K J c x => by kernel_rfl⟩
theorem laws_FnVoyage_22_le (n : Nat) : LoopEq (T := T) (Phi n 75) (laws_FnVoyage_Ls n) laws_FnVoyage_ann n laws_FnVoyage_22_c (laws_FnVoyage_22_sp n) := ⟨mkSpec_dec (fun y => rfl), fun c x => by kernel_rfl, fun K J c x => by kernel_rfl⟩
theorem laws_FnVoyage_27_le (n : Nat) : LoopEq (T := T) (Phi n 75) (laws_FnVoyage_Ls n) laws_FnVoyage_ann n laws_FnVoyage_27_c (laws_FnVoyage_27_sp n) := ⟨mkSpec_dec (fun y => rfl), fun c x => by kernel_rfl, fun K J c x => by kernel_rfl⟩
theorem laws_FnVoyage_34_le (n : Nat) : LoopEq (T := T) (Phi n 75) (laws_FnVoyage_Ls n) laws_FnVoyage_ann n laws_FnVoyage_34_c (laws_FnVoyage_34_sp n) := ⟨mkSpec_dec (fun y => rfl), fun c x => by kernel_rfl, fun K J c x => by kernel_rfl⟩
theorem laws_FnVoyage_tie (n : Nat) (code0 : List Int) : evF (T := T) (Phi n 75) (laws_FnVoyage_Ls n) laws_FnVoyage_ann n Try.f4 (sg 4) [vA T 22 code0] laws_FnVoyage_dec = laws_FnVoyage n code0 := by kernel_rfl
theorem laws_FnVoyage_lo (n : Nat) : LoopsOk (T := T) (Phi n 75) (laws_FnVoyage_Ls n) laws_FnVoyage_ann n laws_FnVoyage_code := loopsOk_all (cs := [laws_FnVoyage_17_c, laws_FnVoyage_22_c, laws_FnVoyage_27_c, laws_FnVoyage_34_c]) (by kernel_rfl) ⟨⟨_, by kernel_rfl, laws_FnVoyage_17_le n⟩, ⟨_, by kernel_rfl, laws_FnVoyage_22_le n⟩, ⟨_, by kernel_rfl, laws_FnVoyage_27_le n⟩, ⟨_, by kernel_rfl, laws_FnVoyage_34_le n⟩, trivial⟩
theorem laws_FnVoyage_ok (n : Nat) : EntOk Try.prog (ents n) (laws_FnVoyage_ent n) := by
  intro hs ar y hg h
  replace h : laws_FnVoyage_D n ar = some y := h
  unfold laws_FnVoyage_D at h
  replace h := ocons_some h
  obtain ⟨a0, r0, rfl, h⟩ := h
  replace h := onil_some h
  obtain ⟨rfl, h⟩ := h
  obtain ⟨code0, qh0, h⟩ := obind_some h
  rw [argV_eq ok qh0]
  exact call_of (phiE_nat _ _) hs ok mixed Try.func4 (c := laws_FnVoyage_code) (by kernel_rfl) (laws_FnVoyage_lo n) (by kernel_rfl) (by kernel_rfl) (by kernel_rfl) laws_FnVoyage_de ((laws_FnVoyage_tie n code0).trans h)
theorem entsOk (n : Nat) : EntsOk Try.prog (ents n) (ents n) := ⟨laws_big_ok n, spec_l1New_ok n, spec_l1Byte_ok n, spec_l1Below_ok n, spec_l1PickInt_ok n, spec_l12DrawBays_ok n, spec_l12At_ok n, spec_l12Stack_ok n, spec_l1In_ok n, spec_l11Letter_ok n, spec_CheckDigit_ok n, spec_l11DrawName_ok n, spec_l1Once_ok n, spec_l11Draw_ok n, spec_HatchesOk_ok n, spec_BoxName_ok n, spec_BoxOk_ok n, spec_StackOk_ok n, spec_l12Cold_ok n, spec_l11Spot_ok n, spec_l3Size_ok n, spec_l1Least_ok n, spec_Apart_ok n, spec_KeepsApart_ok n, spec_l12Fails_ok n, spec_StowCode_ok n, spec_l12DrawStows_ok n, spec_l11DrawSpot_ok n, spec_l1Pick_ok n, spec_l11DrawText_ok n, spec_l11DrawAny_ok n, spec_l12Muddle_ok n, spec_DrawAtPort_ok n, impl_own_impl_Stow_ok n, impl_in_ok n, impl_HatchesOk_1_ok n, slices_IndexFunc_impl_Hatch_impl_Hatch__impl_HatchesOk_1_ok n, slices_ContainsFunc_impl_Hatch_impl_Hatch__impl_HatchesOk_1_ok n, impl_HatchesOk_ok n, impl_valueOf_ok n, impl_CheckDigit_ok n, impl_BoxName_ok n, impl_portOk_ok n, impl_BoxOk_ok n, impl_StowCode_1_ok n, impl_StowCode_2_1_ok n, slices_IndexFunc_impl_Stow_impl_Stow__impl_StowCode_2_1_ok n, slices_ContainsFunc_impl_Stow_impl_Stow__impl_StowCode_2_1_ok n, impl_StowCode_2_ok n, impl_StowCode_3_ok n, impl_StowCode_4_1_ok n, slices_IndexFunc_impl_Stow_impl_Stow__impl_StowCode_4_1_ok n, slices_ContainsFunc_impl_Stow_impl_Stow__impl_StowCode_4_1_ok n, impl_StowCode_4_ok n, cmp_isNaN_int_ok n, cmp_Compare_int_ok n, impl_stackOf_1_ok n, slices_SortFunc_impl_Stow_impl_Stow__impl_stackOf_1_ok n, impl_stackOf_ok n, impl_StackOk_ok n, impl_StowCode_5_ok n, impl_StowCode_6_ok n, impl_spotOk_ok n, impl_size_ok n, impl_Apart_ok n, impl_KeepsApart_ok n, impl_StowCode_7_1_ok n, slices_IndexFunc_impl_Stow_impl_Stow__impl_StowCode_7_1_ok n, slices_ContainsFunc_impl_Stow_impl_Stow__impl_StowCode_7_1_ok n, impl_StowCode_7_ok n, impl_StowCode_ok n, impl_over_ok n, impl_own_int_ok n, impl_Shifts_ok n, impl_AtPort_ok n, laws_FnVoyage_ok n, trivial⟩
theorem sem (n i : Nat) : SemOk (Phi n i) (CallOk Try.prog T) := phiE_ok (entsOk n) i
end Go.Sm.C4
