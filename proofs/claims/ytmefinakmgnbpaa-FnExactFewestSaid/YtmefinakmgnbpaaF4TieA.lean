import Derived.Test.YtmefinakmgnbpaaF4Tb
import Derived.Test.YtmefinakmgnbpaaEngD
import Derived.Test.YtmefinakmgnbpaaEngE
import Derived.Test.YtmefinakmgnbpaaLay
import Derived.KernelRfl
/- Each function's code computes what the plain function computes. Part 1. -/
set_option linter.unusedSimpArgs false
set_option linter.deprecated false
set_option linter.unusedSectionVars false
set_option linter.unusedVariables false
set_option maxRecDepth 100000
open Go Go.Proofs
noncomputable section
namespace Go.Sm.F4
/-- By recursors, and of a greater height than all of the functions: the kernel takes these apart first. -/
def obind {α β : Type} (o : Option α) (f : α → Option β) : Option β := let _ := @laws_FnExactFewest; Option.rec (motive := fun _ => Option β) none (fun a => f a) o
theorem obind_some {α β : Type} {o : Option α} {f : α → Option β} {y : β} (h : obind o f = some y) : ∃ a, o = some a ∧ f a = some y := by
  cases o with
  | none => cases h
  | some a => exact ⟨a, rfl, h⟩
def ocons {β : Type} (l : List (A T)) (f : A T → List (A T) → Option β) : Option β := let _ := @laws_FnExactFewest; List.rec (motive := fun _ => Option β) none (fun a r _ => f a r) l
theorem ocons_some {β : Type} {l : List (A T)} {f : A T → List (A T) → Option β} {y : β} (h : ocons l f = some y) : ∃ a r, l = a :: r ∧ f a r = some y := by
  cases l with
  | nil => cases h
  | cons a r => exact ⟨a, r, rfl, h⟩
def onil {β : Type} (l : List (A T)) (x : Option β) : Option β := let _ := @laws_FnExactFewest; List.rec (motive := fun _ => Option β) x (fun _ _ _ => none) l
theorem onil_some {β : Type} {l : List (A T)} {x : Option β} {y : β} (h : onil l x = some y) : l = [] ∧ x = some y := by
  cases l with
  | nil => exact ⟨rfl, h⟩
  | cons a r => cases h
def laws_szHatchS_dec (res : Res T) : Option Int := match res.rets, res.outs with
  | [a0], [] => (retV (T := T) 3 a0).bind fun r0 => some (r0)
  | _, _ => none
def laws_szHatchS_enc (y : Int) : Res T := ⟨[vR T 3 y], []⟩
theorem laws_szHatchS_de (res : Res T) (y : Int) (h : laws_szHatchS_dec res = some y) : res = laws_szHatchS_enc y := by
  obtain ⟨rets, outs⟩ := res
  unfold laws_szHatchS_dec at h
  dsimp only at h
  split at h
  · obtain ⟨r0, h0, h⟩ := Option.bind_eq_some_iff.1 h
    cases h
    rw [retV_eq ok h0]
    rfl
  · cases h
def laws_szBox_dec (res : Res T) : Option Int := match res.rets, res.outs with
  | [a0], [] => (retV (T := T) 3 a0).bind fun r0 => some (r0)
  | _, _ => none
def laws_szBox_enc (y : Int) : Res T := ⟨[vR T 3 y], []⟩
theorem laws_szBox_de (res : Res T) (y : Int) (h : laws_szBox_dec res = some y) : res = laws_szBox_enc y := by
  obtain ⟨rets, outs⟩ := res
  unfold laws_szBox_dec at h
  dsimp only at h
  split at h
  · obtain ⟨r0, h0, h⟩ := Option.bind_eq_some_iff.1 h
    cases h
    rw [retV_eq ok h0]
    rfl
  · cases h
def laws_szBoxS_dec (res : Res T) : Option Int := match res.rets, res.outs with
  | [a0], [] => (retV (T := T) 3 a0).bind fun r0 => some (r0)
  | _, _ => none
def laws_szBoxS_enc (y : Int) : Res T := ⟨[vR T 3 y], []⟩
theorem laws_szBoxS_de (res : Res T) (y : Int) (h : laws_szBoxS_dec res = some y) : res = laws_szBoxS_enc y := by
  obtain ⟨rets, outs⟩ := res
  unfold laws_szBoxS_dec at h
  dsimp only at h
  split at h
  · obtain ⟨r0, h0, h⟩ := Option.bind_eq_some_iff.1 h
    cases h
    rw [retV_eq ok h0]
    rfl
  · cases h
def laws_toHatch_dec (res : Res T) : Option SHatch := match res.rets, res.outs with
  | [a0], [] => (retV (T := T) 96 a0).bind fun r0 => some (r0)
  | _, _ => none
def laws_toHatch_enc (y : SHatch) : Res T := ⟨[vR T 96 y], []⟩
theorem laws_toHatch_de (res : Res T) (y : SHatch) (h : laws_toHatch_dec res = some y) : res = laws_toHatch_enc y := by
  obtain ⟨rets, outs⟩ := res
  unfold laws_toHatch_dec at h
  dsimp only at h
  split at h
  · obtain ⟨r0, h0, h⟩ := Option.bind_eq_some_iff.1 h
    cases h
    rw [retV_eq ok h0]
    rfl
  · cases h
def laws_toHatchS_dec (res : Res T) : Option (List SHatch) := match res.rets, res.outs with
  | [a0], [] => (retV (T := T) 47 a0).bind fun r0 => some (r0)
  | _, _ => none
def laws_toHatchS_enc (y : List SHatch) : Res T := ⟨[vR T 47 y], []⟩
theorem laws_toHatchS_de (res : Res T) (y : List SHatch) (h : laws_toHatchS_dec res = some y) : res = laws_toHatchS_enc y := by
  obtain ⟨rets, outs⟩ := res
  unfold laws_toHatchS_dec at h
  dsimp only at h
  split at h
  · obtain ⟨r0, h0, h⟩ := Option.bind_eq_some_iff.1 h
    cases h
    rw [retV_eq ok h0]
    rfl
  · cases h
def laws_toBox_dec (res : Res T) : Option SBox := match res.rets, res.outs with
  | [a0], [] => (retV (T := T) 63 a0).bind fun r0 => some (r0)
  | _, _ => none
def laws_toBox_enc (y : SBox) : Res T := ⟨[vR T 63 y], []⟩
theorem laws_toBox_de (res : Res T) (y : SBox) (h : laws_toBox_dec res = some y) : res = laws_toBox_enc y := by
  obtain ⟨rets, outs⟩ := res
  unfold laws_toBox_dec at h
  dsimp only at h
  split at h
  · obtain ⟨r0, h0, h⟩ := Option.bind_eq_some_iff.1 h
    cases h
    rw [retV_eq ok h0]
    rfl
  · cases h
def laws_toBoxS_dec (res : Res T) : Option (List SBox) := match res.rets, res.outs with
  | [a0], [] => (retV (T := T) 49 a0).bind fun r0 => some (r0)
  | _, _ => none
def laws_toBoxS_enc (y : List SBox) : Res T := ⟨[vR T 49 y], []⟩
theorem laws_toBoxS_de (res : Res T) (y : List SBox) (h : laws_toBoxS_dec res = some y) : res = laws_toBoxS_enc y := by
  obtain ⟨rets, outs⟩ := res
  unfold laws_toBoxS_dec at h
  dsimp only at h
  split at h
  · obtain ⟨r0, h0, h⟩ := Option.bind_eq_some_iff.1 h
    cases h
    rw [retV_eq ok h0]
    rfl
  · cases h
def spec_l1In_dec (res : Res T) : Option Bool := match res.rets, res.outs with
  | [a0], [] => (retV (T := T) 4 a0).bind fun r0 => some (r0)
  | _, _ => none
def spec_l1In_enc (y : Bool) : Res T := ⟨[vR T 4 y], []⟩
theorem spec_l1In_de (res : Res T) (y : Bool) (h : spec_l1In_dec res = some y) : res = spec_l1In_enc y := by
  obtain ⟨rets, outs⟩ := res
  unfold spec_l1In_dec at h
  dsimp only at h
  split at h
  · obtain ⟨r0, h0, h⟩ := Option.bind_eq_some_iff.1 h
    cases h
    rw [retV_eq ok h0]
    rfl
  · cases h
def spec_HatchesOk_dec (res : Res T) : Option Bool := match res.rets, res.outs with
  | [a0], [] => (retV (T := T) 4 a0).bind fun r0 => some (r0)
  | _, _ => none
def spec_HatchesOk_enc (y : Bool) : Res T := ⟨[vR T 4 y], []⟩
theorem spec_HatchesOk_de (res : Res T) (y : Bool) (h : spec_HatchesOk_dec res = some y) : res = spec_HatchesOk_enc y := by
  obtain ⟨rets, outs⟩ := res
  unfold spec_HatchesOk_dec at h
  dsimp only at h
  split at h
  · obtain ⟨r0, h0, h⟩ := Option.bind_eq_some_iff.1 h
    cases h
    rw [retV_eq ok h0]
    rfl
  · cases h
def spec_l11Letter_dec (res : Res T) : Option Int := match res.rets, res.outs with
  | [a0], [] => (retV (T := T) 3 a0).bind fun r0 => some (r0)
  | _, _ => none
def spec_l11Letter_enc (y : Int) : Res T := ⟨[vR T 3 y], []⟩
theorem spec_l11Letter_de (res : Res T) (y : Int) (h : spec_l11Letter_dec res = some y) : res = spec_l11Letter_enc y := by
  obtain ⟨rets, outs⟩ := res
  unfold spec_l11Letter_dec at h
  dsimp only at h
  split at h
  · obtain ⟨r0, h0, h⟩ := Option.bind_eq_some_iff.1 h
    cases h
    rw [retV_eq ok h0]
    rfl
  · cases h
def spec_CheckDigit_dec (res : Res T) : Option Int := match res.rets, res.outs with
  | [a0], [] => (retV (T := T) 3 a0).bind fun r0 => some (r0)
  | _, _ => none
def spec_CheckDigit_enc (y : Int) : Res T := ⟨[vR T 3 y], []⟩
theorem spec_CheckDigit_de (res : Res T) (y : Int) (h : spec_CheckDigit_dec res = some y) : res = spec_CheckDigit_enc y := by
  obtain ⟨rets, outs⟩ := res
  unfold spec_CheckDigit_dec at h
  dsimp only at h
  split at h
  · obtain ⟨r0, h0, h⟩ := Option.bind_eq_some_iff.1 h
    cases h
    rw [retV_eq ok h0]
    rfl
  · cases h
def spec_BoxName_dec (res : Res T) : Option Bool := match res.rets, res.outs with
  | [a0], [] => (retV (T := T) 4 a0).bind fun r0 => some (r0)
  | _, _ => none
def spec_BoxName_enc (y : Bool) : Res T := ⟨[vR T 4 y], []⟩
theorem spec_BoxName_de (res : Res T) (y : Bool) (h : spec_BoxName_dec res = some y) : res = spec_BoxName_enc y := by
  obtain ⟨rets, outs⟩ := res
  unfold spec_BoxName_dec at h
  dsimp only at h
  split at h
  · obtain ⟨r0, h0, h⟩ := Option.bind_eq_some_iff.1 h
    cases h
    rw [retV_eq ok h0]
    rfl
  · cases h
def spec_BoxOk_dec (res : Res T) : Option Bool := match res.rets, res.outs with
  | [a0], [] => (retV (T := T) 4 a0).bind fun r0 => some (r0)
  | _, _ => none
def spec_BoxOk_enc (y : Bool) : Res T := ⟨[vR T 4 y], []⟩
theorem spec_BoxOk_de (res : Res T) (y : Bool) (h : spec_BoxOk_dec res = some y) : res = spec_BoxOk_enc y := by
  obtain ⟨rets, outs⟩ := res
  unfold spec_BoxOk_dec at h
  dsimp only at h
  split at h
  · obtain ⟨r0, h0, h⟩ := Option.bind_eq_some_iff.1 h
    cases h
    rw [retV_eq ok h0]
    rfl
  · cases h
def spec_l12At_dec (res : Res T) : Option Int := match res.rets, res.outs with
  | [a0], [] => (retV (T := T) 3 a0).bind fun r0 => some (r0)
  | _, _ => none
def spec_l12At_enc (y : Int) : Res T := ⟨[vR T 3 y], []⟩
theorem spec_l12At_de (res : Res T) (y : Int) (h : spec_l12At_dec res = some y) : res = spec_l12At_enc y := by
  obtain ⟨rets, outs⟩ := res
  unfold spec_l12At_dec at h
  dsimp only at h
  split at h
  · obtain ⟨r0, h0, h⟩ := Option.bind_eq_some_iff.1 h
    cases h
    rw [retV_eq ok h0]
    rfl
  · cases h
def spec_l12Stack_dec (res : Res T) : Option (List SBox) := match res.rets, res.outs with
  | [a0], [] => (retV (T := T) 49 a0).bind fun r0 => some (r0)
  | _, _ => none
def spec_l12Stack_enc (y : List SBox) : Res T := ⟨[vR T 49 y], []⟩
theorem spec_l12Stack_de (res : Res T) (y : List SBox) (h : spec_l12Stack_dec res = some y) : res = spec_l12Stack_enc y := by
  obtain ⟨rets, outs⟩ := res
  unfold spec_l12Stack_dec at h
  dsimp only at h
  split at h
  · obtain ⟨r0, h0, h⟩ := Option.bind_eq_some_iff.1 h
    cases h
    rw [retV_eq ok h0]
    rfl
  · cases h
def spec_StackOk_dec (res : Res T) : Option Bool := match res.rets, res.outs with
  | [a0], [] => (retV (T := T) 4 a0).bind fun r0 => some (r0)
  | _, _ => none
def spec_StackOk_enc (y : Bool) : Res T := ⟨[vR T 4 y], []⟩
theorem spec_StackOk_de (res : Res T) (y : Bool) (h : spec_StackOk_dec res = some y) : res = spec_StackOk_enc y := by
  obtain ⟨rets, outs⟩ := res
  unfold spec_StackOk_dec at h
  dsimp only at h
  split at h
  · obtain ⟨r0, h0, h⟩ := Option.bind_eq_some_iff.1 h
    cases h
    rw [retV_eq ok h0]
    rfl
  · cases h
def spec_l12Cold_dec (res : Res T) : Option Int := match res.rets, res.outs with
  | [a0], [] => (retV (T := T) 3 a0).bind fun r0 => some (r0)
  | _, _ => none
def spec_l12Cold_enc (y : Int) : Res T := ⟨[vR T 3 y], []⟩
theorem spec_l12Cold_de (res : Res T) (y : Int) (h : spec_l12Cold_dec res = some y) : res = spec_l12Cold_enc y := by
  obtain ⟨rets, outs⟩ := res
  unfold spec_l12Cold_dec at h
  dsimp only at h
  split at h
  · obtain ⟨r0, h0, h⟩ := Option.bind_eq_some_iff.1 h
    cases h
    rw [retV_eq ok h0]
    rfl
  · cases h
def spec_l11Spot_dec (res : Res T) : Option Bool := match res.rets, res.outs with
  | [a0], [] => (retV (T := T) 4 a0).bind fun r0 => some (r0)
  | _, _ => none
def spec_l11Spot_enc (y : Bool) : Res T := ⟨[vR T 4 y], []⟩
theorem spec_l11Spot_de (res : Res T) (y : Bool) (h : spec_l11Spot_dec res = some y) : res = spec_l11Spot_enc y := by
  obtain ⟨rets, outs⟩ := res
  unfold spec_l11Spot_dec at h
  dsimp only at h
  split at h
  · obtain ⟨r0, h0, h⟩ := Option.bind_eq_some_iff.1 h
    cases h
    rw [retV_eq ok h0]
    rfl
  · cases h
def spec_l3Size_dec (res : Res T) : Option Int := match res.rets, res.outs with
  | [a0], [] => (retV (T := T) 3 a0).bind fun r0 => some (r0)
  | _, _ => none
def spec_l3Size_enc (y : Int) : Res T := ⟨[vR T 3 y], []⟩
theorem spec_l3Size_de (res : Res T) (y : Int) (h : spec_l3Size_dec res = some y) : res = spec_l3Size_enc y := by
  obtain ⟨rets, outs⟩ := res
  unfold spec_l3Size_dec at h
  dsimp only at h
  split at h
  · obtain ⟨r0, h0, h⟩ := Option.bind_eq_some_iff.1 h
    cases h
    rw [retV_eq ok h0]
    rfl
  · cases h
def spec_l1Least_dec (res : Res T) : Option Int := match res.rets, res.outs with
  | [a0], [] => (retV (T := T) 3 a0).bind fun r0 => some (r0)
  | _, _ => none
def spec_l1Least_enc (y : Int) : Res T := ⟨[vR T 3 y], []⟩
theorem spec_l1Least_de (res : Res T) (y : Int) (h : spec_l1Least_dec res = some y) : res = spec_l1Least_enc y := by
  obtain ⟨rets, outs⟩ := res
  unfold spec_l1Least_dec at h
  dsimp only at h
  split at h
  · obtain ⟨r0, h0, h⟩ := Option.bind_eq_some_iff.1 h
    cases h
    rw [retV_eq ok h0]
    rfl
  · cases h
def spec_Apart_dec (res : Res T) : Option Int := match res.rets, res.outs with
  | [a0], [] => (retV (T := T) 3 a0).bind fun r0 => some (r0)
  | _, _ => none
def spec_Apart_enc (y : Int) : Res T := ⟨[vR T 3 y], []⟩
theorem spec_Apart_de (res : Res T) (y : Int) (h : spec_Apart_dec res = some y) : res = spec_Apart_enc y := by
  obtain ⟨rets, outs⟩ := res
  unfold spec_Apart_dec at h
  dsimp only at h
  split at h
  · obtain ⟨r0, h0, h⟩ := Option.bind_eq_some_iff.1 h
    cases h
    rw [retV_eq ok h0]
    rfl
  · cases h
def spec_KeepsApart_dec (res : Res T) : Option Bool := match res.rets, res.outs with
  | [a0], [] => (retV (T := T) 4 a0).bind fun r0 => some (r0)
  | _, _ => none
def spec_KeepsApart_enc (y : Bool) : Res T := ⟨[vR T 4 y], []⟩
theorem spec_KeepsApart_de (res : Res T) (y : Bool) (h : spec_KeepsApart_dec res = some y) : res = spec_KeepsApart_enc y := by
  obtain ⟨rets, outs⟩ := res
  unfold spec_KeepsApart_dec at h
  dsimp only at h
  split at h
  · obtain ⟨r0, h0, h⟩ := Option.bind_eq_some_iff.1 h
    cases h
    rw [retV_eq ok h0]
    rfl
  · cases h
def spec_l12Fails_dec (res : Res T) : Option Bool := match res.rets, res.outs with
  | [a0], [] => (retV (T := T) 4 a0).bind fun r0 => some (r0)
  | _, _ => none
def spec_l12Fails_enc (y : Bool) : Res T := ⟨[vR T 4 y], []⟩
theorem spec_l12Fails_de (res : Res T) (y : Bool) (h : spec_l12Fails_dec res = some y) : res = spec_l12Fails_enc y := by
  obtain ⟨rets, outs⟩ := res
  unfold spec_l12Fails_dec at h
  dsimp only at h
  split at h
  · obtain ⟨r0, h0, h⟩ := Option.bind_eq_some_iff.1 h
    cases h
    rw [retV_eq ok h0]
    rfl
  · cases h
def spec_StowCode_dec (res : Res T) : Option (Int × Int) := match res.rets, res.outs with
  | [a0, a1], [] => (retV (T := T) 3 a0).bind fun r0 => (retV (T := T) 3 a1).bind fun r1 => some (r0, r1)
  | _, _ => none
def spec_StowCode_enc (y : Int × Int) : Res T := ⟨[vR T 3 y.1, vR T 3 y.2], []⟩
theorem spec_StowCode_de (res : Res T) (y : Int × Int) (h : spec_StowCode_dec res = some y) : res = spec_StowCode_enc y := by
  obtain ⟨rets, outs⟩ := res
  unfold spec_StowCode_dec at h
  dsimp only at h
  split at h
  · obtain ⟨r0, h0, h⟩ := Option.bind_eq_some_iff.1 h
    obtain ⟨r1, h1, h⟩ := Option.bind_eq_some_iff.1 h
    cases h
    rw [retV_eq ok h0, retV_eq ok h1]
    rfl
  · cases h
def spec_l12Over_dec (res : Res T) : Option Int := match res.rets, res.outs with
  | [a0], [] => (retV (T := T) 3 a0).bind fun r0 => some (r0)
  | _, _ => none
def spec_l12Over_enc (y : Int) : Res T := ⟨[vR T 3 y], []⟩
theorem spec_l12Over_de (res : Res T) (y : Int) (h : spec_l12Over_dec res = some y) : res = spec_l12Over_enc y := by
  obtain ⟨rets, outs⟩ := res
  unfold spec_l12Over_dec at h
  dsimp only at h
  split at h
  · obtain ⟨r0, h0, h⟩ := Option.bind_eq_some_iff.1 h
    cases h
    rw [retV_eq ok h0]
    rfl
  · cases h
def spec_l12Seek_dec (res : Res T) : Option (List SStow × Bool) := match res.rets, res.outs with
  | [a0, a1], [] => (retV (T := T) 44 a0).bind fun r0 => (retV (T := T) 4 a1).bind fun r1 => some (r0, r1)
  | _, _ => none
def spec_l12Seek_enc (y : List SStow × Bool) : Res T := ⟨[vR T 44 y.1, vR T 4 y.2], []⟩
theorem spec_l12Seek_de (res : Res T) (y : List SStow × Bool) (h : spec_l12Seek_dec res = some y) : res = spec_l12Seek_enc y := by
  obtain ⟨rets, outs⟩ := res
  unfold spec_l12Seek_dec at h
  dsimp only at h
  split at h
  · obtain ⟨r0, h0, h⟩ := Option.bind_eq_some_iff.1 h
    obtain ⟨r1, h1, h⟩ := Option.bind_eq_some_iff.1 h
    cases h
    rw [retV_eq ok h0, retV_eq ok h1]
    rfl
  · cases h
def spec_Fewest_dec (res : Res T) : Option (List SStow × Bool) := match res.rets, res.outs with
  | [a0, a1], [] => (retV (T := T) 44 a0).bind fun r0 => (retV (T := T) 4 a1).bind fun r1 => some (r0, r1)
  | _, _ => none
def spec_Fewest_enc (y : List SStow × Bool) : Res T := ⟨[vR T 44 y.1, vR T 4 y.2], []⟩
theorem spec_Fewest_de (res : Res T) (y : List SStow × Bool) (h : spec_Fewest_dec res = some y) : res = spec_Fewest_enc y := by
  obtain ⟨rets, outs⟩ := res
  unfold spec_Fewest_dec at h
  dsimp only at h
  split at h
  · obtain ⟨r0, h0, h⟩ := Option.bind_eq_some_iff.1 h
    obtain ⟨r1, h1, h⟩ := Option.bind_eq_some_iff.1 h
    cases h
    rw [retV_eq ok h0, retV_eq ok h1]
    rfl
  · cases h
def impl_in_dec (res : Res T) : Option Bool := match res.rets, res.outs with
  | [a0], [] => (retV (T := T) 4 a0).bind fun r0 => some (r0)
  | _, _ => none
def impl_in_enc (y : Bool) : Res T := ⟨[vR T 4 y], []⟩
theorem impl_in_de (res : Res T) (y : Bool) (h : impl_in_dec res = some y) : res = impl_in_enc y := by
  obtain ⟨rets, outs⟩ := res
  unfold impl_in_dec at h
  dsimp only at h
  split at h
  · obtain ⟨r0, h0, h⟩ := Option.bind_eq_some_iff.1 h
    cases h
    rw [retV_eq ok h0]
    rfl
  · cases h
def impl_HatchesOk_1_dec (res : Res T) : Option Bool := match res.rets, res.outs with
  | [a0], [] => (retV (T := T) 4 a0).bind fun r0 => some (r0)
  | _, _ => none
def impl_HatchesOk_1_enc (y : Bool) : Res T := ⟨[vR T 4 y], []⟩
theorem impl_HatchesOk_1_de (res : Res T) (y : Bool) (h : impl_HatchesOk_1_dec res = some y) : res = impl_HatchesOk_1_enc y := by
  obtain ⟨rets, outs⟩ := res
  unfold impl_HatchesOk_1_dec at h
  dsimp only at h
  split at h
  · obtain ⟨r0, h0, h⟩ := Option.bind_eq_some_iff.1 h
    cases h
    rw [retV_eq ok h0]
    rfl
  · cases h
def sIndex_HatchesOk_1_dec (res : Res T) : Option Int := match res.rets, res.outs with
  | [a0], [] => (retV (T := T) 3 a0).bind fun r0 => some (r0)
  | _, _ => none
def sIndex_HatchesOk_1_enc (y : Int) : Res T := ⟨[vR T 3 y], []⟩
theorem sIndex_HatchesOk_1_de (res : Res T) (y : Int) (h : sIndex_HatchesOk_1_dec res = some y) : res = sIndex_HatchesOk_1_enc y := by
  obtain ⟨rets, outs⟩ := res
  unfold sIndex_HatchesOk_1_dec at h
  dsimp only at h
  split at h
  · obtain ⟨r0, h0, h⟩ := Option.bind_eq_some_iff.1 h
    cases h
    rw [retV_eq ok h0]
    rfl
  · cases h
def sContains_HatchesOk_1_dec (res : Res T) : Option Bool := match res.rets, res.outs with
  | [a0], [] => (retV (T := T) 4 a0).bind fun r0 => some (r0)
  | _, _ => none
def sContains_HatchesOk_1_enc (y : Bool) : Res T := ⟨[vR T 4 y], []⟩
theorem sContains_HatchesOk_1_de (res : Res T) (y : Bool) (h : sContains_HatchesOk_1_dec res = some y) : res = sContains_HatchesOk_1_enc y := by
  obtain ⟨rets, outs⟩ := res
  unfold sContains_HatchesOk_1_dec at h
  dsimp only at h
  split at h
  · obtain ⟨r0, h0, h⟩ := Option.bind_eq_some_iff.1 h
    cases h
    rw [retV_eq ok h0]
    rfl
  · cases h
def impl_HatchesOk_dec (res : Res T) : Option Bool := match res.rets, res.outs with
  | [a0], [] => (retV (T := T) 4 a0).bind fun r0 => some (r0)
  | _, _ => none
def impl_HatchesOk_enc (y : Bool) : Res T := ⟨[vR T 4 y], []⟩
theorem impl_HatchesOk_de (res : Res T) (y : Bool) (h : impl_HatchesOk_dec res = some y) : res = impl_HatchesOk_enc y := by
  obtain ⟨rets, outs⟩ := res
  unfold impl_HatchesOk_dec at h
  dsimp only at h
  split at h
  · obtain ⟨r0, h0, h⟩ := Option.bind_eq_some_iff.1 h
    cases h
    rw [retV_eq ok h0]
    rfl
  · cases h
def impl_valueOf_dec (res : Res T) : Option Int := match res.rets, res.outs with
  | [a0], [] => (retV (T := T) 3 a0).bind fun r0 => some (r0)
  | _, _ => none
def impl_valueOf_enc (y : Int) : Res T := ⟨[vR T 3 y], []⟩
theorem impl_valueOf_de (res : Res T) (y : Int) (h : impl_valueOf_dec res = some y) : res = impl_valueOf_enc y := by
  obtain ⟨rets, outs⟩ := res
  unfold impl_valueOf_dec at h
  dsimp only at h
  split at h
  · obtain ⟨r0, h0, h⟩ := Option.bind_eq_some_iff.1 h
    cases h
    rw [retV_eq ok h0]
    rfl
  · cases h
def impl_CheckDigit_dec (res : Res T) : Option Int := match res.rets, res.outs with
  | [a0], [] => (retV (T := T) 3 a0).bind fun r0 => some (r0)
  | _, _ => none
def impl_CheckDigit_enc (y : Int) : Res T := ⟨[vR T 3 y], []⟩
theorem impl_CheckDigit_de (res : Res T) (y : Int) (h : impl_CheckDigit_dec res = some y) : res = impl_CheckDigit_enc y := by
  obtain ⟨rets, outs⟩ := res
  unfold impl_CheckDigit_dec at h
  dsimp only at h
  split at h
  · obtain ⟨r0, h0, h⟩ := Option.bind_eq_some_iff.1 h
    cases h
    rw [retV_eq ok h0]
    rfl
  · cases h
def impl_BoxName_dec (res : Res T) : Option Bool := match res.rets, res.outs with
  | [a0], [] => (retV (T := T) 4 a0).bind fun r0 => some (r0)
  | _, _ => none
def impl_BoxName_enc (y : Bool) : Res T := ⟨[vR T 4 y], []⟩
theorem impl_BoxName_de (res : Res T) (y : Bool) (h : impl_BoxName_dec res = some y) : res = impl_BoxName_enc y := by
  obtain ⟨rets, outs⟩ := res
  unfold impl_BoxName_dec at h
  dsimp only at h
  split at h
  · obtain ⟨r0, h0, h⟩ := Option.bind_eq_some_iff.1 h
    cases h
    rw [retV_eq ok h0]
    rfl
  · cases h
def impl_portOk_dec (res : Res T) : Option Bool := match res.rets, res.outs with
  | [a0], [] => (retV (T := T) 4 a0).bind fun r0 => some (r0)
  | _, _ => none
def impl_portOk_enc (y : Bool) : Res T := ⟨[vR T 4 y], []⟩
theorem impl_portOk_de (res : Res T) (y : Bool) (h : impl_portOk_dec res = some y) : res = impl_portOk_enc y := by
  obtain ⟨rets, outs⟩ := res
  unfold impl_portOk_dec at h
  dsimp only at h
  split at h
  · obtain ⟨r0, h0, h⟩ := Option.bind_eq_some_iff.1 h
    cases h
    rw [retV_eq ok h0]
    rfl
  · cases h
def impl_BoxOk_dec (res : Res T) : Option Bool := match res.rets, res.outs with
  | [a0], [] => (retV (T := T) 4 a0).bind fun r0 => some (r0)
  | _, _ => none
def impl_BoxOk_enc (y : Bool) : Res T := ⟨[vR T 4 y], []⟩
theorem impl_BoxOk_de (res : Res T) (y : Bool) (h : impl_BoxOk_dec res = some y) : res = impl_BoxOk_enc y := by
  obtain ⟨rets, outs⟩ := res
  unfold impl_BoxOk_dec at h
  dsimp only at h
  split at h
  · obtain ⟨r0, h0, h⟩ := Option.bind_eq_some_iff.1 h
    cases h
    rw [retV_eq ok h0]
    rfl
  · cases h
def impl_Fewest_1_dec (res : Res T) : Option Bool := match res.rets, res.outs with
  | [a0], [] => (retV (T := T) 4 a0).bind fun r0 => some (r0)
  | _, _ => none
def impl_Fewest_1_enc (y : Bool) : Res T := ⟨[vR T 4 y], []⟩
theorem impl_Fewest_1_de (res : Res T) (y : Bool) (h : impl_Fewest_1_dec res = some y) : res = impl_Fewest_1_enc y := by
  obtain ⟨rets, outs⟩ := res
  unfold impl_Fewest_1_dec at h
  dsimp only at h
  split at h
  · obtain ⟨r0, h0, h⟩ := Option.bind_eq_some_iff.1 h
    cases h
    rw [retV_eq ok h0]
    rfl
  · cases h
def sIndex_Fewest_1_dec (res : Res T) : Option Int := match res.rets, res.outs with
  | [a0], [] => (retV (T := T) 3 a0).bind fun r0 => some (r0)
  | _, _ => none
def sIndex_Fewest_1_enc (y : Int) : Res T := ⟨[vR T 3 y], []⟩
theorem sIndex_Fewest_1_de (res : Res T) (y : Int) (h : sIndex_Fewest_1_dec res = some y) : res = sIndex_Fewest_1_enc y := by
  obtain ⟨rets, outs⟩ := res
  unfold sIndex_Fewest_1_dec at h
  dsimp only at h
  split at h
  · obtain ⟨r0, h0, h⟩ := Option.bind_eq_some_iff.1 h
    cases h
    rw [retV_eq ok h0]
    rfl
  · cases h
def sContains_Fewest_1_dec (res : Res T) : Option Bool := match res.rets, res.outs with
  | [a0], [] => (retV (T := T) 4 a0).bind fun r0 => some (r0)
  | _, _ => none
def sContains_Fewest_1_enc (y : Bool) : Res T := ⟨[vR T 4 y], []⟩
theorem sContains_Fewest_1_de (res : Res T) (y : Bool) (h : sContains_Fewest_1_dec res = some y) : res = sContains_Fewest_1_enc y := by
  obtain ⟨rets, outs⟩ := res
  unfold sContains_Fewest_1_dec at h
  dsimp only at h
  split at h
  · obtain ⟨r0, h0, h⟩ := Option.bind_eq_some_iff.1 h
    cases h
    rw [retV_eq ok h0]
    rfl
  · cases h
def impl_StowCode_1_dec (res : Res T) : Option Bool := match res.rets, res.outs with
  | [a0], [] => (retV (T := T) 4 a0).bind fun r0 => some (r0)
  | _, _ => none
def impl_StowCode_1_enc (y : Bool) : Res T := ⟨[vR T 4 y], []⟩
theorem impl_StowCode_1_de (res : Res T) (y : Bool) (h : impl_StowCode_1_dec res = some y) : res = impl_StowCode_1_enc y := by
  obtain ⟨rets, outs⟩ := res
  unfold impl_StowCode_1_dec at h
  dsimp only at h
  split at h
  · obtain ⟨r0, h0, h⟩ := Option.bind_eq_some_iff.1 h
    cases h
    rw [retV_eq ok h0]
    rfl
  · cases h
def impl_StowCode_2_1_dec (res : Res T) : Option Bool := match res.rets, res.outs with
  | [a0], [] => (retV (T := T) 4 a0).bind fun r0 => some (r0)
  | _, _ => none
def impl_StowCode_2_1_enc (y : Bool) : Res T := ⟨[vR T 4 y], []⟩
theorem impl_StowCode_2_1_de (res : Res T) (y : Bool) (h : impl_StowCode_2_1_dec res = some y) : res = impl_StowCode_2_1_enc y := by
  obtain ⟨rets, outs⟩ := res
  unfold impl_StowCode_2_1_dec at h
  dsimp only at h
  split at h
  · obtain ⟨r0, h0, h⟩ := Option.bind_eq_some_iff.1 h
    cases h
    rw [retV_eq ok h0]
    rfl
  · cases h
def sIndex_StowCode_2_1_dec (res : Res T) : Option Int := match res.rets, res.outs with
  | [a0], [] => (retV (T := T) 3 a0).bind fun r0 => some (r0)
  | _, _ => none
def sIndex_StowCode_2_1_enc (y : Int) : Res T := ⟨[vR T 3 y], []⟩
theorem sIndex_StowCode_2_1_de (res : Res T) (y : Int) (h : sIndex_StowCode_2_1_dec res = some y) : res = sIndex_StowCode_2_1_enc y := by
  obtain ⟨rets, outs⟩ := res
  unfold sIndex_StowCode_2_1_dec at h
  dsimp only at h
  split at h
  · obtain ⟨r0, h0, h⟩ := Option.bind_eq_some_iff.1 h
    cases h
    rw [retV_eq ok h0]
    rfl
  · cases h
def sContains_StowCode_2_1_dec (res : Res T) : Option Bool := match res.rets, res.outs with
  | [a0], [] => (retV (T := T) 4 a0).bind fun r0 => some (r0)
  | _, _ => none
def sContains_StowCode_2_1_enc (y : Bool) : Res T := ⟨[vR T 4 y], []⟩
theorem sContains_StowCode_2_1_de (res : Res T) (y : Bool) (h : sContains_StowCode_2_1_dec res = some y) : res = sContains_StowCode_2_1_enc y := by
  obtain ⟨rets, outs⟩ := res
  unfold sContains_StowCode_2_1_dec at h
  dsimp only at h
  split at h
  · obtain ⟨r0, h0, h⟩ := Option.bind_eq_some_iff.1 h
    cases h
    rw [retV_eq ok h0]
    rfl
  · cases h
def impl_StowCode_2_dec (res : Res T) : Option Bool := match res.rets, res.outs with
  | [a0], [] => (retV (T := T) 4 a0).bind fun r0 => some (r0)
  | _, _ => none
def impl_StowCode_2_enc (y : Bool) : Res T := ⟨[vR T 4 y], []⟩
theorem impl_StowCode_2_de (res : Res T) (y : Bool) (h : impl_StowCode_2_dec res = some y) : res = impl_StowCode_2_enc y := by
  obtain ⟨rets, outs⟩ := res
  unfold impl_StowCode_2_dec at h
  dsimp only at h
  split at h
  · obtain ⟨r0, h0, h⟩ := Option.bind_eq_some_iff.1 h
    cases h
    rw [retV_eq ok h0]
    rfl
  · cases h
def impl_StowCode_3_dec (res : Res T) : Option Bool := match res.rets, res.outs with
  | [a0], [] => (retV (T := T) 4 a0).bind fun r0 => some (r0)
  | _, _ => none
def impl_StowCode_3_enc (y : Bool) : Res T := ⟨[vR T 4 y], []⟩
theorem impl_StowCode_3_de (res : Res T) (y : Bool) (h : impl_StowCode_3_dec res = some y) : res = impl_StowCode_3_enc y := by
  obtain ⟨rets, outs⟩ := res
  unfold impl_StowCode_3_dec at h
  dsimp only at h
  split at h
  · obtain ⟨r0, h0, h⟩ := Option.bind_eq_some_iff.1 h
    cases h
    rw [retV_eq ok h0]
    rfl
  · cases h
def impl_StowCode_4_1_dec (res : Res T) : Option Bool := match res.rets, res.outs with
  | [a0], [] => (retV (T := T) 4 a0).bind fun r0 => some (r0)
  | _, _ => none
def impl_StowCode_4_1_enc (y : Bool) : Res T := ⟨[vR T 4 y], []⟩
theorem impl_StowCode_4_1_de (res : Res T) (y : Bool) (h : impl_StowCode_4_1_dec res = some y) : res = impl_StowCode_4_1_enc y := by
  obtain ⟨rets, outs⟩ := res
  unfold impl_StowCode_4_1_dec at h
  dsimp only at h
  split at h
  · obtain ⟨r0, h0, h⟩ := Option.bind_eq_some_iff.1 h
    cases h
    rw [retV_eq ok h0]
    rfl
  · cases h
def sIndex_StowCode_4_1_dec (res : Res T) : Option Int := match res.rets, res.outs with
  | [a0], [] => (retV (T := T) 3 a0).bind fun r0 => some (r0)
  | _, _ => none
def sIndex_StowCode_4_1_enc (y : Int) : Res T := ⟨[vR T 3 y], []⟩
theorem sIndex_StowCode_4_1_de (res : Res T) (y : Int) (h : sIndex_StowCode_4_1_dec res = some y) : res = sIndex_StowCode_4_1_enc y := by
  obtain ⟨rets, outs⟩ := res
  unfold sIndex_StowCode_4_1_dec at h
  dsimp only at h
  split at h
  · obtain ⟨r0, h0, h⟩ := Option.bind_eq_some_iff.1 h
    cases h
    rw [retV_eq ok h0]
    rfl
  · cases h
def sContains_StowCode_4_1_dec (res : Res T) : Option Bool := match res.rets, res.outs with
  | [a0], [] => (retV (T := T) 4 a0).bind fun r0 => some (r0)
  | _, _ => none
def sContains_StowCode_4_1_enc (y : Bool) : Res T := ⟨[vR T 4 y], []⟩
theorem sContains_StowCode_4_1_de (res : Res T) (y : Bool) (h : sContains_StowCode_4_1_dec res = some y) : res = sContains_StowCode_4_1_enc y := by
  obtain ⟨rets, outs⟩ := res
  unfold sContains_StowCode_4_1_dec at h
  dsimp only at h
  split at h
  · obtain ⟨r0, h0, h⟩ := Option.bind_eq_some_iff.1 h
    cases h
    rw [retV_eq ok h0]
    rfl
  · cases h
def impl_StowCode_4_dec (res : Res T) : Option Bool := match res.rets, res.outs with
  | [a0], [] => (retV (T := T) 4 a0).bind fun r0 => some (r0)
  | _, _ => none
def impl_StowCode_4_enc (y : Bool) : Res T := ⟨[vR T 4 y], []⟩
theorem impl_StowCode_4_de (res : Res T) (y : Bool) (h : impl_StowCode_4_dec res = some y) : res = impl_StowCode_4_enc y := by
  obtain ⟨rets, outs⟩ := res
  unfold impl_StowCode_4_dec at h
  dsimp only at h
  split at h
  · obtain ⟨r0, h0, h⟩ := Option.bind_eq_some_iff.1 h
    cases h
    rw [retV_eq ok h0]
    rfl
  · cases h
def cmp_isNaN_int_dec (res : Res T) : Option Bool := match res.rets, res.outs with
  | [a0], [] => (retV (T := T) 4 a0).bind fun r0 => some (r0)
  | _, _ => none
def cmp_isNaN_int_enc (y : Bool) : Res T := ⟨[vR T 4 y], []⟩
theorem cmp_isNaN_int_de (res : Res T) (y : Bool) (h : cmp_isNaN_int_dec res = some y) : res = cmp_isNaN_int_enc y := by
  obtain ⟨rets, outs⟩ := res
  unfold cmp_isNaN_int_dec at h
  dsimp only at h
  split at h
  · obtain ⟨r0, h0, h⟩ := Option.bind_eq_some_iff.1 h
    cases h
    rw [retV_eq ok h0]
    rfl
  · cases h
def cmp_Compare_int_dec (res : Res T) : Option Int := match res.rets, res.outs with
  | [a0], [] => (retV (T := T) 3 a0).bind fun r0 => some (r0)
  | _, _ => none
def cmp_Compare_int_enc (y : Int) : Res T := ⟨[vR T 3 y], []⟩
theorem cmp_Compare_int_de (res : Res T) (y : Int) (h : cmp_Compare_int_dec res = some y) : res = cmp_Compare_int_enc y := by
  obtain ⟨rets, outs⟩ := res
  unfold cmp_Compare_int_dec at h
  dsimp only at h
  split at h
  · obtain ⟨r0, h0, h⟩ := Option.bind_eq_some_iff.1 h
    cases h
    rw [retV_eq ok h0]
    rfl
  · cases h
def impl_stackOf_1_dec (res : Res T) : Option Int := match res.rets, res.outs with
  | [a0], [] => (retV (T := T) 3 a0).bind fun r0 => some (r0)
  | _, _ => none
def impl_stackOf_1_enc (y : Int) : Res T := ⟨[vR T 3 y], []⟩
theorem impl_stackOf_1_de (res : Res T) (y : Int) (h : impl_stackOf_1_dec res = some y) : res = impl_stackOf_1_enc y := by
  obtain ⟨rets, outs⟩ := res
  unfold impl_stackOf_1_dec at h
  dsimp only at h
  split at h
  · obtain ⟨r0, h0, h⟩ := Option.bind_eq_some_iff.1 h
    cases h
    rw [retV_eq ok h0]
    rfl
  · cases h
def sSort_stackOf_1_dec (res : Res T) : Option (List SStow) := match res.rets, res.outs with
  | [], [b0] => (outS (T := T) 67 b0).bind fun r0 => some (r0)
  | _, _ => none
def sSort_stackOf_1_enc (y : List SStow) : Res T := ⟨[], [.sl 67 y]⟩
theorem sSort_stackOf_1_de (res : Res T) (y : List SStow) (h : sSort_stackOf_1_dec res = some y) : res = sSort_stackOf_1_enc y := by
  obtain ⟨rets, outs⟩ := res
  unfold sSort_stackOf_1_dec at h
  dsimp only at h
  split at h
  · obtain ⟨r0, h0, h⟩ := Option.bind_eq_some_iff.1 h
    cases h
    rw [outS_eq h0]
    rfl
  · cases h
def impl_stackOf_dec (res : Res T) : Option (List SBox) := match res.rets, res.outs with
  | [a0], [] => (retV (T := T) 49 a0).bind fun r0 => some (r0)
  | _, _ => none
def impl_stackOf_enc (y : List SBox) : Res T := ⟨[vR T 49 y], []⟩
theorem impl_stackOf_de (res : Res T) (y : List SBox) (h : impl_stackOf_dec res = some y) : res = impl_stackOf_enc y := by
  obtain ⟨rets, outs⟩ := res
  unfold impl_stackOf_dec at h
  dsimp only at h
  split at h
  · obtain ⟨r0, h0, h⟩ := Option.bind_eq_some_iff.1 h
    cases h
    rw [retV_eq ok h0]
    rfl
  · cases h
def impl_StackOk_dec (res : Res T) : Option Bool := match res.rets, res.outs with
  | [a0], [] => (retV (T := T) 4 a0).bind fun r0 => some (r0)
  | _, _ => none
def impl_StackOk_enc (y : Bool) : Res T := ⟨[vR T 4 y], []⟩
theorem impl_StackOk_de (res : Res T) (y : Bool) (h : impl_StackOk_dec res = some y) : res = impl_StackOk_enc y := by
  obtain ⟨rets, outs⟩ := res
  unfold impl_StackOk_dec at h
  dsimp only at h
  split at h
  · obtain ⟨r0, h0, h⟩ := Option.bind_eq_some_iff.1 h
    cases h
    rw [retV_eq ok h0]
    rfl
  · cases h
def impl_StowCode_5_dec (res : Res T) : Option Bool := match res.rets, res.outs with
  | [a0], [] => (retV (T := T) 4 a0).bind fun r0 => some (r0)
  | _, _ => none
def impl_StowCode_5_enc (y : Bool) : Res T := ⟨[vR T 4 y], []⟩
theorem impl_StowCode_5_de (res : Res T) (y : Bool) (h : impl_StowCode_5_dec res = some y) : res = impl_StowCode_5_enc y := by
  obtain ⟨rets, outs⟩ := res
  unfold impl_StowCode_5_dec at h
  dsimp only at h
  split at h
  · obtain ⟨r0, h0, h⟩ := Option.bind_eq_some_iff.1 h
    cases h
    rw [retV_eq ok h0]
    rfl
  · cases h
def impl_StowCode_6_dec (res : Res T) : Option Bool := match res.rets, res.outs with
  | [a0], [] => (retV (T := T) 4 a0).bind fun r0 => some (r0)
  | _, _ => none
def impl_StowCode_6_enc (y : Bool) : Res T := ⟨[vR T 4 y], []⟩
theorem impl_StowCode_6_de (res : Res T) (y : Bool) (h : impl_StowCode_6_dec res = some y) : res = impl_StowCode_6_enc y := by
  obtain ⟨rets, outs⟩ := res
  unfold impl_StowCode_6_dec at h
  dsimp only at h
  split at h
  · obtain ⟨r0, h0, h⟩ := Option.bind_eq_some_iff.1 h
    cases h
    rw [retV_eq ok h0]
    rfl
  · cases h
def impl_spotOk_dec (res : Res T) : Option Bool := match res.rets, res.outs with
  | [a0], [] => (retV (T := T) 4 a0).bind fun r0 => some (r0)
  | _, _ => none
def impl_spotOk_enc (y : Bool) : Res T := ⟨[vR T 4 y], []⟩
theorem impl_spotOk_de (res : Res T) (y : Bool) (h : impl_spotOk_dec res = some y) : res = impl_spotOk_enc y := by
  obtain ⟨rets, outs⟩ := res
  unfold impl_spotOk_dec at h
  dsimp only at h
  split at h
  · obtain ⟨r0, h0, h⟩ := Option.bind_eq_some_iff.1 h
    cases h
    rw [retV_eq ok h0]
    rfl
  · cases h
def impl_size_dec (res : Res T) : Option Int := match res.rets, res.outs with
  | [a0], [] => (retV (T := T) 3 a0).bind fun r0 => some (r0)
  | _, _ => none
def impl_size_enc (y : Int) : Res T := ⟨[vR T 3 y], []⟩
theorem impl_size_de (res : Res T) (y : Int) (h : impl_size_dec res = some y) : res = impl_size_enc y := by
  obtain ⟨rets, outs⟩ := res
  unfold impl_size_dec at h
  dsimp only at h
  split at h
  · obtain ⟨r0, h0, h⟩ := Option.bind_eq_some_iff.1 h
    cases h
    rw [retV_eq ok h0]
    rfl
  · cases h
def impl_Apart_dec (res : Res T) : Option Int := match res.rets, res.outs with
  | [a0], [] => (retV (T := T) 3 a0).bind fun r0 => some (r0)
  | _, _ => none
def impl_Apart_enc (y : Int) : Res T := ⟨[vR T 3 y], []⟩
theorem impl_Apart_de (res : Res T) (y : Int) (h : impl_Apart_dec res = some y) : res = impl_Apart_enc y := by
  obtain ⟨rets, outs⟩ := res
  unfold impl_Apart_dec at h
  dsimp only at h
  split at h
  · obtain ⟨r0, h0, h⟩ := Option.bind_eq_some_iff.1 h
    cases h
    rw [retV_eq ok h0]
    rfl
  · cases h
def impl_KeepsApart_dec (res : Res T) : Option Bool := match res.rets, res.outs with
  | [a0], [] => (retV (T := T) 4 a0).bind fun r0 => some (r0)
  | _, _ => none
def impl_KeepsApart_enc (y : Bool) : Res T := ⟨[vR T 4 y], []⟩
theorem impl_KeepsApart_de (res : Res T) (y : Bool) (h : impl_KeepsApart_dec res = some y) : res = impl_KeepsApart_enc y := by
  obtain ⟨rets, outs⟩ := res
  unfold impl_KeepsApart_dec at h
  dsimp only at h
  split at h
  · obtain ⟨r0, h0, h⟩ := Option.bind_eq_some_iff.1 h
    cases h
    rw [retV_eq ok h0]
    rfl
  · cases h
def impl_StowCode_7_1_dec (res : Res T) : Option Bool := match res.rets, res.outs with
  | [a0], [] => (retV (T := T) 4 a0).bind fun r0 => some (r0)
  | _, _ => none
def impl_StowCode_7_1_enc (y : Bool) : Res T := ⟨[vR T 4 y], []⟩
theorem impl_StowCode_7_1_de (res : Res T) (y : Bool) (h : impl_StowCode_7_1_dec res = some y) : res = impl_StowCode_7_1_enc y := by
  obtain ⟨rets, outs⟩ := res
  unfold impl_StowCode_7_1_dec at h
  dsimp only at h
  split at h
  · obtain ⟨r0, h0, h⟩ := Option.bind_eq_some_iff.1 h
    cases h
    rw [retV_eq ok h0]
    rfl
  · cases h
def sIndex_StowCode_7_1_dec (res : Res T) : Option Int := match res.rets, res.outs with
  | [a0], [] => (retV (T := T) 3 a0).bind fun r0 => some (r0)
  | _, _ => none
def sIndex_StowCode_7_1_enc (y : Int) : Res T := ⟨[vR T 3 y], []⟩
theorem sIndex_StowCode_7_1_de (res : Res T) (y : Int) (h : sIndex_StowCode_7_1_dec res = some y) : res = sIndex_StowCode_7_1_enc y := by
  obtain ⟨rets, outs⟩ := res
  unfold sIndex_StowCode_7_1_dec at h
  dsimp only at h
  split at h
  · obtain ⟨r0, h0, h⟩ := Option.bind_eq_some_iff.1 h
    cases h
    rw [retV_eq ok h0]
    rfl
  · cases h
def sContains_StowCode_7_1_dec (res : Res T) : Option Bool := match res.rets, res.outs with
  | [a0], [] => (retV (T := T) 4 a0).bind fun r0 => some (r0)
  | _, _ => none
def sContains_StowCode_7_1_enc (y : Bool) : Res T := ⟨[vR T 4 y], []⟩
theorem sContains_StowCode_7_1_de (res : Res T) (y : Bool) (h : sContains_StowCode_7_1_dec res = some y) : res = sContains_StowCode_7_1_enc y := by
  obtain ⟨rets, outs⟩ := res
  unfold sContains_StowCode_7_1_dec at h
  dsimp only at h
  split at h
  · obtain ⟨r0, h0, h⟩ := Option.bind_eq_some_iff.1 h
    cases h
    rw [retV_eq ok h0]
    rfl
  · cases h
def impl_StowCode_7_dec (res : Res T) : Option Bool := match res.rets, res.outs with
  | [a0], [] => (retV (T := T) 4 a0).bind fun r0 => some (r0)
  | _, _ => none
def impl_StowCode_7_enc (y : Bool) : Res T := ⟨[vR T 4 y], []⟩
theorem impl_StowCode_7_de (res : Res T) (y : Bool) (h : impl_StowCode_7_dec res = some y) : res = impl_StowCode_7_enc y := by
  obtain ⟨rets, outs⟩ := res
  unfold impl_StowCode_7_dec at h
  dsimp only at h
  split at h
  · obtain ⟨r0, h0, h⟩ := Option.bind_eq_some_iff.1 h
    cases h
    rw [retV_eq ok h0]
    rfl
  · cases h
def impl_StowCode_dec (res : Res T) : Option (Int × Int) := match res.rets, res.outs with
  | [a0, a1], [] => (retV (T := T) 3 a0).bind fun r0 => (retV (T := T) 3 a1).bind fun r1 => some (r0, r1)
  | _, _ => none
def impl_StowCode_enc (y : Int × Int) : Res T := ⟨[vR T 3 y.1, vR T 3 y.2], []⟩
theorem impl_StowCode_de (res : Res T) (y : Int × Int) (h : impl_StowCode_dec res = some y) : res = impl_StowCode_enc y := by
  obtain ⟨rets, outs⟩ := res
  unfold impl_StowCode_dec at h
  dsimp only at h
  split at h
  · obtain ⟨r0, h0, h⟩ := Option.bind_eq_some_iff.1 h
    obtain ⟨r1, h1, h⟩ := Option.bind_eq_some_iff.1 h
    cases h
    rw [retV_eq ok h0, retV_eq ok h1]
    rfl
  · cases h
def impl_over_dec (res : Res T) : Option Bool := match res.rets, res.outs with
  | [a0], [] => (retV (T := T) 4 a0).bind fun r0 => some (r0)
  | _, _ => none
def impl_over_enc (y : Bool) : Res T := ⟨[vR T 4 y], []⟩
theorem impl_over_de (res : Res T) (y : Bool) (h : impl_over_dec res = some y) : res = impl_over_enc y := by
  obtain ⟨rets, outs⟩ := res
  unfold impl_over_dec at h
  dsimp only at h
  split at h
  · obtain ⟨r0, h0, h⟩ := Option.bind_eq_some_iff.1 h
    cases h
    rw [retV_eq ok h0]
    rfl
  · cases h
def impl_overstows_dec (res : Res T) : Option Int := match res.rets, res.outs with
  | [a0], [] => (retV (T := T) 3 a0).bind fun r0 => some (r0)
  | _, _ => none
def impl_overstows_enc (y : Int) : Res T := ⟨[vR T 3 y], []⟩
theorem impl_overstows_de (res : Res T) (y : Int) (h : impl_overstows_dec res = some y) : res = impl_overstows_enc y := by
  obtain ⟨rets, outs⟩ := res
  unfold impl_overstows_dec at h
  dsimp only at h
  split at h
  · obtain ⟨r0, h0, h⟩ := Option.bind_eq_some_iff.1 h
    cases h
    rw [retV_eq ok h0]
    rfl
  · cases h
def impl_own_impl_Stow_dec (res : Res T) : Option (List SStow) := match res.rets, res.outs with
  | [a0], [] => (retV (T := T) 44 a0).bind fun r0 => some (r0)
  | _, _ => none
def impl_own_impl_Stow_enc (y : List SStow) : Res T := ⟨[vR T 44 y], []⟩
theorem impl_own_impl_Stow_de (res : Res T) (y : List SStow) (h : impl_own_impl_Stow_dec res = some y) : res = impl_own_impl_Stow_enc y := by
  obtain ⟨rets, outs⟩ := res
  unfold impl_own_impl_Stow_dec at h
  dsimp only at h
  split at h
  · obtain ⟨r0, h0, h⟩ := Option.bind_eq_some_iff.1 h
    cases h
    rw [retV_eq ok h0]
    rfl
  · cases h
def impl_Fewest_2_1_dec (res : Res T) : Option Bool := match res.rets, res.outs with
  | [a0], [] => (retV (T := T) 4 a0).bind fun r0 => some (r0)
  | _, _ => none
def impl_Fewest_2_1_enc (y : Bool) : Res T := ⟨[vR T 4 y], []⟩
theorem impl_Fewest_2_1_de (res : Res T) (y : Bool) (h : impl_Fewest_2_1_dec res = some y) : res = impl_Fewest_2_1_enc y := by
  obtain ⟨rets, outs⟩ := res
  unfold impl_Fewest_2_1_dec at h
  dsimp only at h
  split at h
  · obtain ⟨r0, h0, h⟩ := Option.bind_eq_some_iff.1 h
    cases h
    rw [retV_eq ok h0]
    rfl
  · cases h
def sIndex_Fewest_2_1_dec (res : Res T) : Option Int := match res.rets, res.outs with
  | [a0], [] => (retV (T := T) 3 a0).bind fun r0 => some (r0)
  | _, _ => none
def sIndex_Fewest_2_1_enc (y : Int) : Res T := ⟨[vR T 3 y], []⟩
theorem sIndex_Fewest_2_1_de (res : Res T) (y : Int) (h : sIndex_Fewest_2_1_dec res = some y) : res = sIndex_Fewest_2_1_enc y := by
  obtain ⟨rets, outs⟩ := res
  unfold sIndex_Fewest_2_1_dec at h
  dsimp only at h
  split at h
  · obtain ⟨r0, h0, h⟩ := Option.bind_eq_some_iff.1 h
    cases h
    rw [retV_eq ok h0]
    rfl
  · cases h
def sContains_Fewest_2_1_dec (res : Res T) : Option Bool := match res.rets, res.outs with
  | [a0], [] => (retV (T := T) 4 a0).bind fun r0 => some (r0)
  | _, _ => none
def sContains_Fewest_2_1_enc (y : Bool) : Res T := ⟨[vR T 4 y], []⟩
theorem sContains_Fewest_2_1_de (res : Res T) (y : Bool) (h : sContains_Fewest_2_1_dec res = some y) : res = sContains_Fewest_2_1_enc y := by
  obtain ⟨rets, outs⟩ := res
  unfold sContains_Fewest_2_1_dec at h
  dsimp only at h
  split at h
  · obtain ⟨r0, h0, h⟩ := Option.bind_eq_some_iff.1 h
    cases h
    rw [retV_eq ok h0]
    rfl
  · cases h
def impl_Fewest_2__self_dec (res : Res T) : Option (Int × List SStow) := match res.rets, res.outs with
  | [], [b0, b1] => (outV (T := T) 3 b0).bind fun r0 => (outV (T := T) 44 b1).bind fun r1 => some (r0, r1)
  | _, _ => none
def impl_Fewest_2__self_enc (y : Int × List SStow) : Res T := ⟨[], [.var 3 y.1, .var 44 y.2]⟩
theorem impl_Fewest_2__self_de (res : Res T) (y : Int × List SStow) (h : impl_Fewest_2__self_dec res = some y) : res = impl_Fewest_2__self_enc y := by
  obtain ⟨rets, outs⟩ := res
  unfold impl_Fewest_2__self_dec at h
  dsimp only at h
  split at h
  · obtain ⟨r0, h0, h⟩ := Option.bind_eq_some_iff.1 h
    obtain ⟨r1, h1, h⟩ := Option.bind_eq_some_iff.1 h
    cases h
    rw [outV_eq h0, outV_eq h1]
    rfl
  · cases h
def impl_Fewest_dec (res : Res T) : Option (List SStow × Bool) := match res.rets, res.outs with
  | [a0, a1], [] => (retV (T := T) 44 a0).bind fun r0 => (retV (T := T) 4 a1).bind fun r1 => some (r0, r1)
  | _, _ => none
def impl_Fewest_enc (y : List SStow × Bool) : Res T := ⟨[vR T 44 y.1, vR T 4 y.2], []⟩
theorem impl_Fewest_de (res : Res T) (y : List SStow × Bool) (h : impl_Fewest_dec res = some y) : res = impl_Fewest_enc y := by
  obtain ⟨rets, outs⟩ := res
  unfold impl_Fewest_dec at h
  dsimp only at h
  split at h
  · obtain ⟨r0, h0, h⟩ := Option.bind_eq_some_iff.1 h
    obtain ⟨r1, h1, h⟩ := Option.bind_eq_some_iff.1 h
    cases h
    rw [retV_eq ok h0, retV_eq ok h1]
    rfl
  · cases h
def laws_eqBox_dec (res : Res T) : Option Bool := match res.rets, res.outs with
  | [a0], [] => (retV (T := T) 4 a0).bind fun r0 => some (r0)
  | _, _ => none
def laws_eqBox_enc (y : Bool) : Res T := ⟨[vR T 4 y], []⟩
theorem laws_eqBox_de (res : Res T) (y : Bool) (h : laws_eqBox_dec res = some y) : res = laws_eqBox_enc y := by
  obtain ⟨rets, outs⟩ := res
  unfold laws_eqBox_dec at h
  dsimp only at h
  split at h
  · obtain ⟨r0, h0, h⟩ := Option.bind_eq_some_iff.1 h
    cases h
    rw [retV_eq ok h0]
    rfl
  · cases h
def laws_eqSpot_dec (res : Res T) : Option Bool := match res.rets, res.outs with
  | [a0], [] => (retV (T := T) 4 a0).bind fun r0 => some (r0)
  | _, _ => none
def laws_eqSpot_enc (y : Bool) : Res T := ⟨[vR T 4 y], []⟩
theorem laws_eqSpot_de (res : Res T) (y : Bool) (h : laws_eqSpot_dec res = some y) : res = laws_eqSpot_enc y := by
  obtain ⟨rets, outs⟩ := res
  unfold laws_eqSpot_dec at h
  dsimp only at h
  split at h
  · obtain ⟨r0, h0, h⟩ := Option.bind_eq_some_iff.1 h
    cases h
    rw [retV_eq ok h0]
    rfl
  · cases h
def laws_eqStow_dec (res : Res T) : Option Bool := match res.rets, res.outs with
  | [a0], [] => (retV (T := T) 4 a0).bind fun r0 => some (r0)
  | _, _ => none
def laws_eqStow_enc (y : Bool) : Res T := ⟨[vR T 4 y], []⟩
theorem laws_eqStow_de (res : Res T) (y : Bool) (h : laws_eqStow_dec res = some y) : res = laws_eqStow_enc y := by
  obtain ⟨rets, outs⟩ := res
  unfold laws_eqStow_dec at h
  dsimp only at h
  split at h
  · obtain ⟨r0, h0, h⟩ := Option.bind_eq_some_iff.1 h
    cases h
    rw [retV_eq ok h0]
    rfl
  · cases h
def laws_eqStowS_dec (res : Res T) : Option Bool := match res.rets, res.outs with
  | [a0], [] => (retV (T := T) 4 a0).bind fun r0 => some (r0)
  | _, _ => none
def laws_eqStowS_enc (y : Bool) : Res T := ⟨[vR T 4 y], []⟩
theorem laws_eqStowS_de (res : Res T) (y : Bool) (h : laws_eqStowS_dec res = some y) : res = laws_eqStowS_enc y := by
  obtain ⟨rets, outs⟩ := res
  unfold laws_eqStowS_dec at h
  dsimp only at h
  split at h
  · obtain ⟨r0, h0, h⟩ := Option.bind_eq_some_iff.1 h
    cases h
    rw [retV_eq ok h0]
    rfl
  · cases h
def laws_eqHatch_dec (res : Res T) : Option Bool := match res.rets, res.outs with
  | [a0], [] => (retV (T := T) 4 a0).bind fun r0 => some (r0)
  | _, _ => none
def laws_eqHatch_enc (y : Bool) : Res T := ⟨[vR T 4 y], []⟩
theorem laws_eqHatch_de (res : Res T) (y : Bool) (h : laws_eqHatch_dec res = some y) : res = laws_eqHatch_enc y := by
  obtain ⟨rets, outs⟩ := res
  unfold laws_eqHatch_dec at h
  dsimp only at h
  split at h
  · obtain ⟨r0, h0, h⟩ := Option.bind_eq_some_iff.1 h
    cases h
    rw [retV_eq ok h0]
    rfl
  · cases h
def laws_eqHatchS_dec (res : Res T) : Option Bool := match res.rets, res.outs with
  | [a0], [] => (retV (T := T) 4 a0).bind fun r0 => some (r0)
  | _, _ => none
def laws_eqHatchS_enc (y : Bool) : Res T := ⟨[vR T 4 y], []⟩
theorem laws_eqHatchS_de (res : Res T) (y : Bool) (h : laws_eqHatchS_dec res = some y) : res = laws_eqHatchS_enc y := by
  obtain ⟨rets, outs⟩ := res
  unfold laws_eqHatchS_dec at h
  dsimp only at h
  split at h
  · obtain ⟨r0, h0, h⟩ := Option.bind_eq_some_iff.1 h
    cases h
    rw [retV_eq ok h0]
    rfl
  · cases h
def laws_eqBoxS_dec (res : Res T) : Option Bool := match res.rets, res.outs with
  | [a0], [] => (retV (T := T) 4 a0).bind fun r0 => some (r0)
  | _, _ => none
def laws_eqBoxS_enc (y : Bool) : Res T := ⟨[vR T 4 y], []⟩
theorem laws_eqBoxS_de (res : Res T) (y : Bool) (h : laws_eqBoxS_dec res = some y) : res = laws_eqBoxS_enc y := by
  obtain ⟨rets, outs⟩ := res
  unfold laws_eqBoxS_dec at h
  dsimp only at h
  split at h
  · obtain ⟨r0, h0, h⟩ := Option.bind_eq_some_iff.1 h
    cases h
    rw [retV_eq ok h0]
    rfl
  · cases h
def laws_markHatchS_dec (res : Res T) : Option (Int × List SHatch) := match res.rets, res.outs with
  | [a0], [b0] => (retV (T := T) 3 a0).bind fun r0 => (outS (T := T) 96 b0).bind fun r1 => some (r0, r1)
  | _, _ => none
def laws_markHatchS_enc (y : Int × List SHatch) : Res T := ⟨[vR T 3 y.1], [.sl 96 y.2]⟩
theorem laws_markHatchS_de (res : Res T) (y : Int × List SHatch) (h : laws_markHatchS_dec res = some y) : res = laws_markHatchS_enc y := by
  obtain ⟨rets, outs⟩ := res
  unfold laws_markHatchS_dec at h
  dsimp only at h
  split at h
  · obtain ⟨r0, h0, h⟩ := Option.bind_eq_some_iff.1 h
    obtain ⟨r1, h1, h⟩ := Option.bind_eq_some_iff.1 h
    cases h
    rw [retV_eq ok h0, outS_eq h1]
    rfl
  · cases h
def laws_markText_dec (res : Res T) : Option ByteArray := match res.rets, res.outs with
  | [a0], [] => (retV (T := T) 9 a0).bind fun r0 => some (r0)
  | _, _ => none
def laws_markText_enc (y : ByteArray) : Res T := ⟨[vR T 9 y], []⟩
theorem laws_markText_de (res : Res T) (y : ByteArray) (h : laws_markText_dec res = some y) : res = laws_markText_enc y := by
  obtain ⟨rets, outs⟩ := res
  unfold laws_markText_dec at h
  dsimp only at h
  split at h
  · obtain ⟨r0, h0, h⟩ := Option.bind_eq_some_iff.1 h
    cases h
    rw [retV_eq ok h0]
    rfl
  · cases h
def laws_markBoxS_dec (res : Res T) : Option (Int × List SBox) := match res.rets, res.outs with
  | [a0], [b0] => (retV (T := T) 3 a0).bind fun r0 => (outS (T := T) 63 b0).bind fun r1 => some (r0, r1)
  | _, _ => none
def laws_markBoxS_enc (y : Int × List SBox) : Res T := ⟨[vR T 3 y.1], [.sl 63 y.2]⟩
theorem laws_markBoxS_de (res : Res T) (y : Int × List SBox) (h : laws_markBoxS_dec res = some y) : res = laws_markBoxS_enc y := by
  obtain ⟨rets, outs⟩ := res
  unfold laws_markBoxS_dec at h
  dsimp only at h
  split at h
  · obtain ⟨r0, h0, h⟩ := Option.bind_eq_some_iff.1 h
    obtain ⟨r1, h1, h⟩ := Option.bind_eq_some_iff.1 h
    cases h
    rw [retV_eq ok h0, outS_eq h1]
    rfl
  · cases h
def laws_markStowS_dec (res : Res T) : Option (Int × List SStow) := match res.rets, res.outs with
  | [a0], [b0] => (retV (T := T) 3 a0).bind fun r0 => (outS (T := T) 67 b0).bind fun r1 => some (r0, r1)
  | _, _ => none
def laws_markStowS_enc (y : Int × List SStow) : Res T := ⟨[vR T 3 y.1], [.sl 67 y.2]⟩
theorem laws_markStowS_de (res : Res T) (y : Int × List SStow) (h : laws_markStowS_dec res = some y) : res = laws_markStowS_enc y := by
  obtain ⟨rets, outs⟩ := res
  unfold laws_markStowS_dec at h
  dsimp only at h
  split at h
  · obtain ⟨r0, h0, h⟩ := Option.bind_eq_some_iff.1 h
    obtain ⟨r1, h1, h⟩ := Option.bind_eq_some_iff.1 h
    cases h
    rw [retV_eq ok h0, outS_eq h1]
    rfl
  · cases h
def laws_heldStowS_dec (res : Res T) : Option Int := match res.rets, res.outs with
  | [a0], [] => (retV (T := T) 3 a0).bind fun r0 => some (r0)
  | _, _ => none
def laws_heldStowS_enc (y : Int) : Res T := ⟨[vR T 3 y], []⟩
theorem laws_heldStowS_de (res : Res T) (y : Int) (h : laws_heldStowS_dec res = some y) : res = laws_heldStowS_enc y := by
  obtain ⟨rets, outs⟩ := res
  unfold laws_heldStowS_dec at h
  dsimp only at h
  split at h
  · obtain ⟨r0, h0, h⟩ := Option.bind_eq_some_iff.1 h
    cases h
    rw [retV_eq ok h0]
    rfl
  · cases h
def laws_FnExactFewest_dec (res : Res T) : Option Bool := match res.rets, res.outs with
  | [a0], [] => (retV (T := T) 4 a0).bind fun r0 => some (r0)
  | _, _ => none
def laws_FnExactFewest_enc (y : Bool) : Res T := ⟨[vR T 4 y], []⟩
theorem laws_FnExactFewest_de (res : Res T) (y : Bool) (h : laws_FnExactFewest_dec res = some y) : res = laws_FnExactFewest_enc y := by
  obtain ⟨rets, outs⟩ := res
  unfold laws_FnExactFewest_dec at h
  dsimp only at h
  split at h
  · obtain ⟨r0, h0, h⟩ := Option.bind_eq_some_iff.1 h
    cases h
    rw [retV_eq ok h0]
    rfl
  · cases h
def laws_szHatchS_D (n : Nat) (r0 : List (A T)) : Option Int := ocons r0 fun a0 r1 => ocons r1 fun a1 r2 => onil r2 (obind (argV (T := T) 40 a0) fun a0 => obind (argV (T := T) 3 a1) fun left1 => laws_szHatchS n a0 left1)
def laws_szHatchS_ent (n : Nat) : Ent T := ⟨11, 0, [], Int, laws_szHatchS_D n, laws_szHatchS_enc⟩
def laws_szBox_D (n : Nat) (r0 : List (A T)) : Option Int := ocons r0 fun a0 r1 => ocons r1 fun a1 r2 => onil r2 (obind (argV (T := T) 91 a0) fun a0 => obind (argV (T := T) 3 a1) fun left1 => laws_szBox n a0 left1)
def laws_szBox_ent (n : Nat) : Ent T := ⟨43, 1, [], Int, laws_szBox_D n, laws_szBox_enc⟩
def laws_szBoxS_D (n : Nat) (r0 : List (A T)) : Option Int := ocons r0 fun a0 r1 => ocons r1 fun a1 r2 => onil r2 (obind (argV (T := T) 41 a0) fun a0 => obind (argV (T := T) 3 a1) fun left1 => laws_szBoxS n a0 left1)
def laws_szBoxS_ent (n : Nat) : Ent T := ⟨12, 2, [], Int, laws_szBoxS_D n, laws_szBoxS_enc⟩
def laws_toHatch_D (n : Nat) (r0 : List (A T)) : Option SHatch := ocons r0 fun a0 r1 => onil r1 (obind (argV (T := T) 99 a0) fun a0 => laws_toHatch n a0)
def laws_toHatch_ent (n : Nat) : Ent T := ⟨47, 3, [], SHatch, laws_toHatch_D n, laws_toHatch_enc⟩
def laws_toHatchS_D (n : Nat) (r0 : List (A T)) : Option (List SHatch) := ocons r0 fun a0 r1 => onil r1 (obind (argV (T := T) 40 a0) fun a0 => laws_toHatchS n a0)
def laws_toHatchS_ent (n : Nat) : Ent T := ⟨14, 4, [], List SHatch, laws_toHatchS_D n, laws_toHatchS_enc⟩
def laws_toBox_D (n : Nat) (r0 : List (A T)) : Option SBox := ocons r0 fun a0 r1 => onil r1 (obind (argV (T := T) 91 a0) fun a0 => laws_toBox n a0)
def laws_toBox_ent (n : Nat) : Ent T := ⟨48, 5, [], SBox, laws_toBox_D n, laws_toBox_enc⟩
def laws_toBoxS_D (n : Nat) (r0 : List (A T)) : Option (List SBox) := ocons r0 fun a0 r1 => onil r1 (obind (argV (T := T) 41 a0) fun a0 => laws_toBoxS n a0)
def laws_toBoxS_ent (n : Nat) : Ent T := ⟨15, 6, [], List SBox, laws_toBoxS_D n, laws_toBoxS_enc⟩
def spec_l1In_D (n : Nat) (r0 : List (A T)) : Option Bool := ocons r0 fun a0 r1 => ocons r1 fun a1 r2 => ocons r2 fun a2 r3 => onil r3 (obind (argV (T := T) 3 a0) fun x0 => obind (argV (T := T) 3 a1) fun a1 => obind (argV (T := T) 3 a2) fun b2 => spec_l1In n x0 a1 b2)
def spec_l1In_ent (n : Nat) : Ent T := ⟨93, 7, [], Bool, spec_l1In_D n, spec_l1In_enc⟩
def spec_HatchesOk_D (n : Nat) (r0 : List (A T)) : Option Bool := ocons r0 fun a0 r1 => onil r1 (obind (argV (T := T) 47 a0) fun bays0 => spec_HatchesOk n bays0)
def spec_HatchesOk_ent (n : Nat) : Ent T := ⟨44, 8, [], Bool, spec_HatchesOk_D n, spec_HatchesOk_enc⟩
def spec_l11Letter_D (n : Nat) (r0 : List (A T)) : Option Int := ocons r0 fun a0 r1 => onil r1 (obind (argV (T := T) 3 a0) fun k0 => spec_l11Letter n k0)
def spec_l11Letter_ent (n : Nat) : Ent T := ⟨123, 9, [], Int, spec_l11Letter_D n, spec_l11Letter_enc⟩
def spec_CheckDigit_D (n : Nat) (r0 : List (A T)) : Option Int := ocons r0 fun a0 r1 => onil r1 (obind (argV (T := T) 9 a0) fun name0 => spec_CheckDigit n name0)
def spec_CheckDigit_ent (n : Nat) : Ent T := ⟨115, 10, [], Int, spec_CheckDigit_D n, spec_CheckDigit_enc⟩
def spec_BoxName_D (n : Nat) (r0 : List (A T)) : Option Bool := ocons r0 fun a0 r1 => onil r1 (obind (argV (T := T) 9 a0) fun text0 => spec_BoxName n text0)
def spec_BoxName_ent (n : Nat) : Ent T := ⟨94, 11, [], Bool, spec_BoxName_D n, spec_BoxName_enc⟩
def spec_BoxOk_D (n : Nat) (r0 : List (A T)) : Option Bool := ocons r0 fun a0 r1 => onil r1 (obind (argV (T := T) 63 a0) fun b0 => spec_BoxOk n b0)
def spec_BoxOk_ent (n : Nat) : Ent T := ⟨45, 12, [], Bool, spec_BoxOk_D n, spec_BoxOk_enc⟩
def spec_l12At_D (n : Nat) (r0 : List (A T)) : Option Int := ocons r0 fun a0 r1 => ocons r1 fun a1 r2 => onil r2 (obind (argV (T := T) 44 a0) fun list0 => obind (argV (T := T) 65 a1) fun s1 => spec_l12At n list0 s1)
def spec_l12At_ent (n : Nat) : Ent T := ⟨97, 13, [], Int, spec_l12At_D n, spec_l12At_enc⟩
def spec_l12Stack_D (n : Nat) (r0 : List (A T)) : Option (List SBox) := ocons r0 fun a0 r1 => ocons r1 fun a1 r2 => ocons r2 fun a2 r3 => onil r3 (obind (argV (T := T) 44 a0) fun list0 => obind (argV (T := T) 3 a1) fun bay1 => obind (argV (T := T) 3 a2) fun row2 => spec_l12Stack n list0 bay1 row2)
def spec_l12Stack_ent (n : Nat) : Ent T := ⟨125, 14, [], List SBox, spec_l12Stack_D n, spec_l12Stack_enc⟩
def spec_StackOk_D (n : Nat) (r0 : List (A T)) : Option Bool := ocons r0 fun a0 r1 => ocons r1 fun a1 r2 => onil r2 (obind (argV (T := T) 49 a0) fun boxes0 => obind (argV (T := T) 3 a1) fun most1 => spec_StackOk n boxes0 most1)
def spec_StackOk_ent (n : Nat) : Ent T := ⟨124, 15, [], Bool, spec_StackOk_D n, spec_StackOk_enc⟩
def spec_l12Cold_D (n : Nat) (r0 : List (A T)) : Option Int := ocons r0 fun a0 r1 => ocons r1 fun a1 r2 => onil r2 (obind (argV (T := T) 44 a0) fun list0 => obind (argV (T := T) 3 a1) fun bay1 => spec_l12Cold n list0 bay1)
def spec_l12Cold_ent (n : Nat) : Ent T := ⟨126, 16, [], Int, spec_l12Cold_D n, spec_l12Cold_enc⟩
def spec_l11Spot_D (n : Nat) (r0 : List (A T)) : Option Bool := ocons r0 fun a0 r1 => onil r1 (obind (argV (T := T) 65 a0) fun s0 => spec_l11Spot n s0)
def spec_l11Spot_ent (n : Nat) : Ent T := ⟨139, 17, [], Bool, spec_l11Spot_D n, spec_l11Spot_enc⟩
def spec_l3Size_D (n : Nat) (r0 : List (A T)) : Option Int := ocons r0 fun a0 r1 => onil r1 (obind (argV (T := T) 3 a0) fun x0 => spec_l3Size n x0)
def spec_l3Size_ent (n : Nat) : Ent T := ⟨140, 18, [], Int, spec_l3Size_D n, spec_l3Size_enc⟩
def spec_l1Least_D (n : Nat) (r0 : List (A T)) : Option Int := ocons r0 fun a0 r1 => ocons r1 fun a1 r2 => onil r2 (obind (argV (T := T) 3 a0) fun a0 => obind (argV (T := T) 3 a1) fun b1 => spec_l1Least n a0 b1)
def spec_l1Least_ent (n : Nat) : Ent T := ⟨147, 19, [], Int, spec_l1Least_D n, spec_l1Least_enc⟩
def spec_Apart_D (n : Nat) (r0 : List (A T)) : Option Int := ocons r0 fun a0 r1 => ocons r1 fun a1 r2 => onil r2 (obind (argV (T := T) 3 a0) fun a0 => obind (argV (T := T) 3 a1) fun b1 => spec_Apart n a0 b1)
def spec_Apart_ent (n : Nat) : Ent T := ⟨141, 20, [], Int, spec_Apart_D n, spec_Apart_enc⟩
def spec_KeepsApart_D (n : Nat) (r0 : List (A T)) : Option Bool := ocons r0 fun a0 r1 => ocons r1 fun a1 r2 => ocons r2 fun a2 r3 => ocons r3 fun a3 r4 => onil r4 (obind (argV (T := T) 63 a0) fun a0 => obind (argV (T := T) 65 a1) fun sa1 => obind (argV (T := T) 63 a2) fun b2 => obind (argV (T := T) 65 a3) fun sb3 => spec_KeepsApart n a0 sa1 b2 sb3)
def spec_KeepsApart_ent (n : Nat) : Ent T := ⟨127, 21, [], Bool, spec_KeepsApart_D n, spec_KeepsApart_enc⟩
def spec_l12Fails_D (n : Nat) (r0 : List (A T)) : Option Bool := ocons r0 fun a0 r1 => ocons r1 fun a1 r2 => ocons r2 fun a2 r3 => ocons r3 fun a3 r4 => onil r4 (obind (argV (T := T) 47 a0) fun bays0 => obind (argV (T := T) 44 a1) fun list1 => obind (argV (T := T) 3 a2) fun i2 => obind (argV (T := T) 3 a3) fun code3 => spec_l12Fails n bays0 list1 i2 code3)
def spec_l12Fails_ent (n : Nat) : Ent T := ⟨116, 22, [], Bool, spec_l12Fails_D n, spec_l12Fails_enc⟩
def spec_StowCode_D (n : Nat) (r0 : List (A T)) : Option (Int × Int) := ocons r0 fun a0 r1 => ocons r1 fun a1 r2 => onil r2 (obind (argV (T := T) 47 a0) fun bays0 => obind (argV (T := T) 44 a1) fun list1 => spec_StowCode n bays0 list1)
def spec_StowCode_ent (n : Nat) : Ent T := ⟨95, 23, [], Int × Int, spec_StowCode_D n, spec_StowCode_enc⟩
def spec_l12Over_D (n : Nat) (r0 : List (A T)) : Option Int := ocons r0 fun a0 r1 => onil r1 (obind (argV (T := T) 44 a0) fun list0 => spec_l12Over n list0)
def spec_l12Over_ent (n : Nat) : Ent T := ⟨96, 24, [], Int, spec_l12Over_D n, spec_l12Over_enc⟩
def spec_l12Seek_Dr (rc : List SHatch → List SBox → List SSpot → List SStow → List SStow → Bool → Option (List SStow × Bool)) (r0 : List (A T)) : Option (List SStow × Bool) := ocons r0 fun a0 r1 => ocons r1 fun a1 r2 => ocons r2 fun a2 r3 => ocons r3 fun a3 r4 => ocons r4 fun a4 r5 => ocons r5 fun a5 r6 => onil r6 (obind (argV (T := T) 47 a0) fun bays0 => obind (argV (T := T) 49 a1) fun boxes1 => obind (argV (T := T) 94 a2) fun spots2 => obind (argV (T := T) 44 a3) fun so3 => obind (argV (T := T) 44 a4) fun best4 => obind (argV (T := T) 4 a5) fun has5 => rc bays0 boxes1 spots2 so3 best4 has5)
def spec_l12Seek_D (n : Nat) (ar : List (A T)) : Option (List SStow × Bool) := spec_l12Seek_Dr (spec_l12Seek_r n n) ar
def spec_l12Seek_ent (n : Nat) : Ent T := ⟨46, 25, [], List SStow × Bool, spec_l12Seek_D n, spec_l12Seek_enc⟩
def spec_Fewest_D (n : Nat) (r0 : List (A T)) : Option (List SStow × Bool) := ocons r0 fun a0 r1 => ocons r1 fun a1 r2 => onil r2 (obind (argV (T := T) 47 a0) fun bays0 => obind (argV (T := T) 49 a1) fun boxes1 => spec_Fewest n bays0 boxes1)
def spec_Fewest_ent (n : Nat) : Ent T := ⟨13, 26, [], List SStow × Bool, spec_Fewest_D n, spec_Fewest_enc⟩
def impl_in_D (n : Nat) (r0 : List (A T)) : Option Bool := ocons r0 fun a0 r1 => ocons r1 fun a1 r2 => ocons r2 fun a2 r3 => onil r3 (obind (argV (T := T) 3 a0) fun n0 => obind (argV (T := T) 3 a1) fun least1 => obind (argV (T := T) 3 a2) fun most2 => impl_in n n0 least1 most2)
def impl_in_ent (n : Nat) : Ent T := ⟨69, 27, [], Bool, impl_in_D n, impl_in_enc⟩
def impl_HatchesOk_1_D (n : Nat) (r0 : List (A T)) : Option Bool := ocons r0 fun a0 r1 => onil r1 (obind (argV (T := T) 96 a0) fun h0 => impl_HatchesOk_1 n h0)
def impl_HatchesOk_1_ent (n : Nat) : Ent T := ⟨99, 28, [], Bool, impl_HatchesOk_1_D n, impl_HatchesOk_1_enc⟩
def sIndex_HatchesOk_1_D (n : Nat) (ar : List (A T)) : Option Int := match ar with
  | [a0, .fn _ []] => obind (argV (T := T) 47 a0) fun s0 => sIndex_HatchesOk_1 n s0
  | _ => none
def sIndex_HatchesOk_1_ent (n : Nat) : Ent T := ⟨117, 29, [99], Int, sIndex_HatchesOk_1_D n, sIndex_HatchesOk_1_enc⟩
def sContains_HatchesOk_1_D (n : Nat) (ar : List (A T)) : Option Bool := match ar with
  | [a0, .fn _ []] => obind (argV (T := T) 47 a0) fun s0 => sContains_HatchesOk_1 n s0
  | _ => none
def sContains_HatchesOk_1_ent (n : Nat) : Ent T := ⟨98, 30, [99], Bool, sContains_HatchesOk_1_D n, sContains_HatchesOk_1_enc⟩
def impl_HatchesOk_D (n : Nat) (r0 : List (A T)) : Option Bool := ocons r0 fun a0 r1 => onil r1 (obind (argV (T := T) 47 a0) fun bays0 => impl_HatchesOk n bays0)
def impl_HatchesOk_ent (n : Nat) : Ent T := ⟨49, 31, [], Bool, impl_HatchesOk_D n, impl_HatchesOk_enc⟩
def impl_valueOf_D (n : Nat) (r0 : List (A T)) : Option Int := ocons r0 fun a0 r1 => onil r1 (obind (argV (T := T) 5 a0) fun c0 => impl_valueOf n c0)
def impl_valueOf_ent (n : Nat) : Ent T := ⟨128, 32, [], Int, impl_valueOf_D n, impl_valueOf_enc⟩
def impl_CheckDigit_D (n : Nat) (r0 : List (A T)) : Option Int := ocons r0 fun a0 r1 => onil r1 (obind (argV (T := T) 9 a0) fun name0 => impl_CheckDigit n name0)
def impl_CheckDigit_ent (n : Nat) : Ent T := ⟨118, 33, [], Int, impl_CheckDigit_D n, impl_CheckDigit_enc⟩
def impl_BoxName_D (n : Nat) (r0 : List (A T)) : Option Bool := ocons r0 fun a0 r1 => onil r1 (obind (argV (T := T) 9 a0) fun text0 => impl_BoxName n text0)
def impl_BoxName_ent (n : Nat) : Ent T := ⟨100, 34, [], Bool, impl_BoxName_D n, impl_BoxName_enc⟩
def impl_portOk_D (n : Nat) (r0 : List (A T)) : Option Bool := ocons r0 fun a0 r1 => onil r1 (obind (argV (T := T) 3 a0) fun n0 => impl_portOk n n0)
def impl_portOk_ent (n : Nat) : Ent T := ⟨101, 35, [], Bool, impl_portOk_D n, impl_portOk_enc⟩
def impl_BoxOk_D (n : Nat) (r0 : List (A T)) : Option Bool := ocons r0 fun a0 r1 => onil r1 (obind (argV (T := T) 63 a0) fun b0 => impl_BoxOk n b0)
def impl_BoxOk_ent (n : Nat) : Ent T := ⟨50, 36, [], Bool, impl_BoxOk_D n, impl_BoxOk_enc⟩
def impl_Fewest_1_D (n : Nat) (r0 : List (A T)) : Option Bool := ocons r0 fun a0 r1 => ocons r1 fun a1 r2 => onil r2 (obind (argV (T := T) 63 a0) fun x0 => obind (argP (T := T) 63 a1) fun a1 => impl_Fewest_1 n x0 a1)
def impl_Fewest_1_ent (n : Nat) : Ent T := ⟨52, 37, [], Bool, impl_Fewest_1_D n, impl_Fewest_1_enc⟩
def sIndex_Fewest_1_D (n : Nat) (ar : List (A T)) : Option Int := match ar with
  | [a0, .fn _ [k1_0]] => obind (argV (T := T) 49 a0) fun s0 => obind (argP (T := T) 63 k1_0) fun f1c0 => sIndex_Fewest_1 n s0 f1c0
  | _ => none
def sIndex_Fewest_1_ent (n : Nat) : Ent T := ⟨102, 38, [52], Int, sIndex_Fewest_1_D n, sIndex_Fewest_1_enc⟩
def sContains_Fewest_1_D (n : Nat) (ar : List (A T)) : Option Bool := match ar with
  | [a0, .fn _ [k1_0]] => obind (argV (T := T) 49 a0) fun s0 => obind (argP (T := T) 63 k1_0) fun f1c0 => sContains_Fewest_1 n s0 f1c0
  | _ => none
def sContains_Fewest_1_ent (n : Nat) : Ent T := ⟨51, 39, [52], Bool, sContains_Fewest_1_D n, sContains_Fewest_1_enc⟩
def impl_StowCode_1_D (n : Nat) (r0 : List (A T)) : Option Bool := ocons r0 fun a0 r1 => ocons r1 fun a1 r2 => onil r2 (obind (argV (T := T) 3 a0) fun _0 => obind (argV (T := T) 67 a1) fun s1 => impl_StowCode_1 n _0 s1)
def impl_StowCode_1_ent (n : Nat) : Ent T := ⟨65, 40, [], Bool, impl_StowCode_1_D n, impl_StowCode_1_enc⟩
def impl_StowCode_2_1_D (n : Nat) (r0 : List (A T)) : Option Bool := ocons r0 fun a0 r1 => ocons r1 fun a1 r2 => onil r2 (obind (argV (T := T) 67 a0) fun x0 => obind (argP (T := T) 67 a1) fun a1 => impl_StowCode_2_1 n x0 a1)
def impl_StowCode_2_1_ent (n : Nat) : Ent T := ⟨67, 41, [], Bool, impl_StowCode_2_1_D n, impl_StowCode_2_1_enc⟩
def sIndex_StowCode_2_1_D (n : Nat) (ar : List (A T)) : Option Int := match ar with
  | [a0, .fn _ [k1_0]] => obind (argV (T := T) 44 a0) fun s0 => obind (argP (T := T) 67 k1_0) fun f1c0 => sIndex_StowCode_2_1 n s0 f1c0
  | _ => none
def sIndex_StowCode_2_1_ent (n : Nat) : Ent T := ⟨104, 42, [67], Int, sIndex_StowCode_2_1_D n, sIndex_StowCode_2_1_enc⟩
def sContains_StowCode_2_1_D (n : Nat) (ar : List (A T)) : Option Bool := match ar with
  | [a0, .fn _ [k1_0]] => obind (argV (T := T) 44 a0) fun s0 => obind (argP (T := T) 67 k1_0) fun f1c0 => sContains_StowCode_2_1 n s0 f1c0
  | _ => none
def sContains_StowCode_2_1_ent (n : Nat) : Ent T := ⟨56, 43, [67], Bool, sContains_StowCode_2_1_D n, sContains_StowCode_2_1_enc⟩
def impl_StowCode_2_D (n : Nat) (r0 : List (A T)) : Option Bool := ocons r0 fun a0 r1 => ocons r1 fun a1 r2 => ocons r2 fun a2 r3 => onil r3 (obind (argV (T := T) 3 a0) fun i0 => obind (argV (T := T) 67 a1) fun s1 => obind (argP (T := T) 44 a2) fun a2 => impl_StowCode_2 n i0 s1 a2)
def impl_StowCode_2_ent (n : Nat) : Ent T := ⟨66, 44, [], Bool, impl_StowCode_2_D n, impl_StowCode_2_enc⟩
def impl_StowCode_3_D (n : Nat) (r0 : List (A T)) : Option Bool := ocons r0 fun a0 r1 => ocons r1 fun a1 r2 => ocons r2 fun a2 r3 => onil r3 (obind (argV (T := T) 3 a0) fun _0 => obind (argV (T := T) 67 a1) fun s1 => obind (argP (T := T) 47 a2) fun a2 => impl_StowCode_3 n _0 s1 a2)
def impl_StowCode_3_ent (n : Nat) : Ent T := ⟨68, 45, [], Bool, impl_StowCode_3_D n, impl_StowCode_3_enc⟩
def impl_StowCode_4_1_D (n : Nat) (r0 : List (A T)) : Option Bool := ocons r0 fun a0 r1 => ocons r1 fun a1 r2 => onil r2 (obind (argV (T := T) 67 a0) fun x0 => obind (argP (T := T) 65 a1) fun a1 => impl_StowCode_4_1 n x0 a1)
def impl_StowCode_4_1_ent (n : Nat) : Ent T := ⟨71, 46, [], Bool, impl_StowCode_4_1_D n, impl_StowCode_4_1_enc⟩
def sIndex_StowCode_4_1_D (n : Nat) (ar : List (A T)) : Option Int := match ar with
  | [a0, .fn _ [k1_0]] => obind (argV (T := T) 44 a0) fun s0 => obind (argP (T := T) 65 k1_0) fun f1c0 => sIndex_StowCode_4_1 n s0 f1c0
  | _ => none
def sIndex_StowCode_4_1_ent (n : Nat) : Ent T := ⟨104, 47, [71], Int, sIndex_StowCode_4_1_D n, sIndex_StowCode_4_1_enc⟩
def sContains_StowCode_4_1_D (n : Nat) (ar : List (A T)) : Option Bool := match ar with
  | [a0, .fn _ [k1_0]] => obind (argV (T := T) 44 a0) fun s0 => obind (argP (T := T) 65 k1_0) fun f1c0 => sContains_StowCode_4_1 n s0 f1c0
  | _ => none
def sContains_StowCode_4_1_ent (n : Nat) : Ent T := ⟨56, 48, [71], Bool, sContains_StowCode_4_1_D n, sContains_StowCode_4_1_enc⟩
def impl_StowCode_4_D (n : Nat) (r0 : List (A T)) : Option Bool := ocons r0 fun a0 r1 => ocons r1 fun a1 r2 => ocons r2 fun a2 r3 => onil r3 (obind (argV (T := T) 3 a0) fun _0 => obind (argV (T := T) 67 a1) fun s1 => obind (argP (T := T) 44 a2) fun a2 => impl_StowCode_4 n _0 s1 a2)
def impl_StowCode_4_ent (n : Nat) : Ent T := ⟨70, 49, [], Bool, impl_StowCode_4_D n, impl_StowCode_4_enc⟩
def cmp_isNaN_int_D (n : Nat) (r0 : List (A T)) : Option Bool := ocons r0 fun a0 r1 => onil r1 (obind (argV (T := T) 3 a0) fun x0 => cmp_isNaN_int n x0)
def cmp_isNaN_int_ent (n : Nat) : Ent T := ⟨122, 50, [], Bool, cmp_isNaN_int_D n, cmp_isNaN_int_enc⟩
def cmp_Compare_int_D (n : Nat) (r0 : List (A T)) : Option Int := ocons r0 fun a0 r1 => ocons r1 fun a1 r2 => onil r2 (obind (argV (T := T) 3 a0) fun x0 => obind (argV (T := T) 3 a1) fun y1 => cmp_Compare_int n x0 y1)
def cmp_Compare_int_ent (n : Nat) : Ent T := ⟨110, 51, [], Int, cmp_Compare_int_D n, cmp_Compare_int_enc⟩
def impl_stackOf_1_D (n : Nat) (r0 : List (A T)) : Option Int := ocons r0 fun a0 r1 => ocons r1 fun a1 r2 => onil r2 (obind (argV (T := T) 67 a0) fun a0 => obind (argV (T := T) 67 a1) fun b1 => impl_stackOf_1 n a0 b1)
def impl_stackOf_1_ent (n : Nat) : Ent T := ⟨109, 52, [], Int, impl_stackOf_1_D n, impl_stackOf_1_enc⟩
def sSort_stackOf_1_D (n : Nat) (ar : List (A T)) : Option (List SStow) := match ar with
  | [a0, .fn _ []] => obind (argV (T := T) 44 a0) fun l0 => sSort_stackOf_1 n l0
  | _ => none
def sSort_stackOf_1_ent (n : Nat) : Ent T := ⟨108, 53, [109], List SStow, sSort_stackOf_1_D n, sSort_stackOf_1_enc⟩
def impl_stackOf_D (n : Nat) (r0 : List (A T)) : Option (List SBox) := ocons r0 fun a0 r1 => ocons r1 fun a1 r2 => ocons r2 fun a2 r3 => onil r3 (obind (argV (T := T) 44 a0) fun list0 => obind (argV (T := T) 3 a1) fun bay1 => obind (argV (T := T) 3 a2) fun row2 => impl_stackOf n list0 bay1 row2)
def impl_stackOf_ent (n : Nat) : Ent T := ⟨74, 54, [], List SBox, impl_stackOf_D n, impl_stackOf_enc⟩
def impl_StackOk_D (n : Nat) (r0 : List (A T)) : Option Bool := ocons r0 fun a0 r1 => ocons r1 fun a1 r2 => onil r2 (obind (argV (T := T) 49 a0) fun boxes0 => obind (argV (T := T) 3 a1) fun most1 => impl_StackOk n boxes0 most1)
def impl_StackOk_ent (n : Nat) : Ent T := ⟨73, 55, [], Bool, impl_StackOk_D n, impl_StackOk_enc⟩
def impl_StowCode_5_D (n : Nat) (r0 : List (A T)) : Option Bool := ocons r0 fun a0 r1 => ocons r1 fun a1 r2 => ocons r2 fun a2 r3 => ocons r3 fun a3 r4 => onil r4 (obind (argV (T := T) 3 a0) fun _0 => obind (argV (T := T) 67 a1) fun s1 => obind (argP (T := T) 44 a2) fun a2 => obind (argP (T := T) 47 a3) fun a3 => impl_StowCode_5 n _0 s1 a2 a3)
def impl_StowCode_5_ent (n : Nat) : Ent T := ⟨72, 56, [], Bool, impl_StowCode_5_D n, impl_StowCode_5_enc⟩
def impl_StowCode_6_D (n : Nat) (r0 : List (A T)) : Option Bool := ocons r0 fun a0 r1 => ocons r1 fun a1 r2 => ocons r2 fun a2 r3 => ocons r3 fun a3 r4 => onil r4 (obind (argV (T := T) 3 a0) fun _0 => obind (argV (T := T) 67 a1) fun s1 => obind (argP (T := T) 44 a2) fun a2 => obind (argP (T := T) 47 a3) fun a3 => impl_StowCode_6 n _0 s1 a2 a3)
def impl_StowCode_6_ent (n : Nat) : Ent T := ⟨75, 57, [], Bool, impl_StowCode_6_D n, impl_StowCode_6_enc⟩
def impl_spotOk_D (n : Nat) (r0 : List (A T)) : Option Bool := ocons r0 fun a0 r1 => onil r1 (obind (argV (T := T) 65 a0) fun s0 => impl_spotOk n s0)
def impl_spotOk_ent (n : Nat) : Ent T := ⟨111, 58, [], Bool, impl_spotOk_D n, impl_spotOk_enc⟩
def impl_size_D (n : Nat) (r0 : List (A T)) : Option Int := ocons r0 fun a0 r1 => onil r1 (obind (argV (T := T) 3 a0) fun n0 => impl_size n n0)
def impl_size_ent (n : Nat) : Ent T := ⟨112, 59, [], Int, impl_size_D n, impl_size_enc⟩
def impl_Apart_D (n : Nat) (r0 : List (A T)) : Option Int := ocons r0 fun a0 r1 => ocons r1 fun a1 r2 => onil r2 (obind (argV (T := T) 3 a0) fun a0 => obind (argV (T := T) 3 a1) fun b1 => impl_Apart n a0 b1)
def impl_Apart_ent (n : Nat) : Ent T := ⟨113, 60, [], Int, impl_Apart_D n, impl_Apart_enc⟩
def impl_KeepsApart_D (n : Nat) (r0 : List (A T)) : Option Bool := ocons r0 fun a0 r1 => ocons r1 fun a1 r2 => ocons r2 fun a2 r3 => ocons r3 fun a3 r4 => onil r4 (obind (argV (T := T) 63 a0) fun a0 => obind (argV (T := T) 65 a1) fun sa1 => obind (argV (T := T) 63 a2) fun b2 => obind (argV (T := T) 65 a3) fun sb3 => impl_KeepsApart n a0 sa1 b2 sb3)
def impl_KeepsApart_ent (n : Nat) : Ent T := ⟨78, 61, [], Bool, impl_KeepsApart_D n, impl_KeepsApart_enc⟩
def impl_StowCode_7_1_D (n : Nat) (r0 : List (A T)) : Option Bool := ocons r0 fun a0 r1 => ocons r1 fun a1 r2 => onil r2 (obind (argV (T := T) 67 a0) fun x0 => obind (argP (T := T) 67 a1) fun a1 => impl_StowCode_7_1 n x0 a1)
def impl_StowCode_7_1_ent (n : Nat) : Ent T := ⟨77, 62, [], Bool, impl_StowCode_7_1_D n, impl_StowCode_7_1_enc⟩
def sIndex_StowCode_7_1_D (n : Nat) (ar : List (A T)) : Option Int := match ar with
  | [a0, .fn _ [k1_0]] => obind (argV (T := T) 44 a0) fun s0 => obind (argP (T := T) 67 k1_0) fun f1c0 => sIndex_StowCode_7_1 n s0 f1c0
  | _ => none
def sIndex_StowCode_7_1_ent (n : Nat) : Ent T := ⟨104, 63, [77], Int, sIndex_StowCode_7_1_D n, sIndex_StowCode_7_1_enc⟩
def sContains_StowCode_7_1_D (n : Nat) (ar : List (A T)) : Option Bool := match ar with
  | [a0, .fn _ [k1_0]] => obind (argV (T := T) 44 a0) fun s0 => obind (argP (T := T) 67 k1_0) fun f1c0 => sContains_StowCode_7_1 n s0 f1c0
  | _ => none
def sContains_StowCode_7_1_ent (n : Nat) : Ent T := ⟨56, 64, [77], Bool, sContains_StowCode_7_1_D n, sContains_StowCode_7_1_enc⟩
def impl_StowCode_7_D (n : Nat) (r0 : List (A T)) : Option Bool := ocons r0 fun a0 r1 => ocons r1 fun a1 r2 => ocons r2 fun a2 r3 => onil r3 (obind (argV (T := T) 3 a0) fun i0 => obind (argV (T := T) 67 a1) fun s1 => obind (argP (T := T) 44 a2) fun a2 => impl_StowCode_7 n i0 s1 a2)
def impl_StowCode_7_ent (n : Nat) : Ent T := ⟨76, 65, [], Bool, impl_StowCode_7_D n, impl_StowCode_7_enc⟩
def impl_StowCode_D (n : Nat) (r0 : List (A T)) : Option (Int × Int) := ocons r0 fun a0 r1 => ocons r1 fun a1 r2 => onil r2 (obind (argV (T := T) 47 a0) fun bays0 => obind (argV (T := T) 44 a1) fun list1 => impl_StowCode n bays0 list1)
def impl_StowCode_ent (n : Nat) : Ent T := ⟨25, 66, [], Int × Int, impl_StowCode_D n, impl_StowCode_enc⟩
def impl_over_D (n : Nat) (r0 : List (A T)) : Option Bool := ocons r0 fun a0 r1 => ocons r1 fun a1 r2 => onil r2 (obind (argV (T := T) 65 a0) fun a0 => obind (argV (T := T) 65 a1) fun b1 => impl_over n a0 b1)
def impl_over_ent (n : Nat) : Ent T := ⟨103, 67, [], Bool, impl_over_D n, impl_over_enc⟩
def impl_overstows_D (n : Nat) (r0 : List (A T)) : Option Int := ocons r0 fun a0 r1 => onil r1 (obind (argV (T := T) 44 a0) fun list0 => impl_overstows n list0)
def impl_overstows_ent (n : Nat) : Ent T := ⟨54, 68, [], Int, impl_overstows_D n, impl_overstows_enc⟩
def impl_own_impl_Stow_D (n : Nat) (r0 : List (A T)) : Option (List SStow) := ocons r0 fun a0 r1 => onil r1 (obind (argV (T := T) 44 a0) fun l0 => impl_own_impl_Stow n l0)
def impl_own_impl_Stow_ent (n : Nat) : Ent T := ⟨55, 69, [], List SStow, impl_own_impl_Stow_D n, impl_own_impl_Stow_enc⟩
def impl_Fewest_2_1_D (n : Nat) (r0 : List (A T)) : Option Bool := ocons r0 fun a0 r1 => ocons r1 fun a1 r2 => onil r2 (obind (argV (T := T) 67 a0) fun x0 => obind (argP (T := T) 65 a1) fun a1 => impl_Fewest_2_1 n x0 a1)
def impl_Fewest_2_1_ent (n : Nat) : Ent T := ⟨57, 70, [], Bool, impl_Fewest_2_1_D n, impl_Fewest_2_1_enc⟩
def sIndex_Fewest_2_1_D (n : Nat) (ar : List (A T)) : Option Int := match ar with
  | [a0, .fn _ [k1_0]] => obind (argV (T := T) 44 a0) fun s0 => obind (argP (T := T) 65 k1_0) fun f1c0 => sIndex_Fewest_2_1 n s0 f1c0
  | _ => none
def sIndex_Fewest_2_1_ent (n : Nat) : Ent T := ⟨104, 71, [57], Int, sIndex_Fewest_2_1_D n, sIndex_Fewest_2_1_enc⟩
def sContains_Fewest_2_1_D (n : Nat) (ar : List (A T)) : Option Bool := match ar with
  | [a0, .fn _ [k1_0]] => obind (argV (T := T) 44 a0) fun s0 => obind (argP (T := T) 65 k1_0) fun f1c0 => sContains_Fewest_2_1 n s0 f1c0
  | _ => none
def sContains_Fewest_2_1_ent (n : Nat) : Ent T := ⟨56, 72, [57], Bool, sContains_Fewest_2_1_D n, sContains_Fewest_2_1_enc⟩
def impl_Fewest_2__self_Dr (rc : List SStow → List SBox → List SHatch → Int → List SStow → List SSpot → Option (Int × List SStow)) (ar : List (A T)) : Option (Int × List SStow) := match ar with
  | [a0, a1, a2, a3, a4, a5, .fn _ []] => obind (argV (T := T) 44 a0) fun l0 => obind (argP (T := T) 49 a1) fun a1 => obind (argP (T := T) 47 a2) fun a2 => obind (argP (T := T) 3 a3) fun a3 => obind (argP (T := T) 44 a4) fun a4 => obind (argP (T := T) 94 a5) fun a5 => rc l0 a1 a2 a3 a4 a5
  | _ => none
def impl_Fewest_2__self_D (n : Nat) (ar : List (A T)) : Option (Int × List SStow) := impl_Fewest_2__self_Dr (impl_Fewest_2__self_r n n) ar
def impl_Fewest_2__self_ent (n : Nat) : Ent T := ⟨53, 73, [2000000053], Int × List SStow, impl_Fewest_2__self_D n, impl_Fewest_2__self_enc⟩
def impl_Fewest_D (n : Nat) (r0 : List (A T)) : Option (List SStow × Bool) := ocons r0 fun a0 r1 => ocons r1 fun a1 r2 => onil r2 (obind (argV (T := T) 47 a0) fun bays0 => obind (argV (T := T) 49 a1) fun boxes1 => impl_Fewest n bays0 boxes1)
def impl_Fewest_ent (n : Nat) : Ent T := ⟨16, 74, [], List SStow × Bool, impl_Fewest_D n, impl_Fewest_enc⟩
def laws_eqBox_D (n : Nat) (r0 : List (A T)) : Option Bool := ocons r0 fun a0 r1 => ocons r1 fun a1 r2 => onil r2 (obind (argV (T := T) 63 a0) fun a0 => obind (argV (T := T) 63 a1) fun b1 => laws_eqBox n a0 b1)
def laws_eqBox_ent (n : Nat) : Ent T := ⟨60, 75, [], Bool, laws_eqBox_D n, laws_eqBox_enc⟩
def laws_eqSpot_D (n : Nat) (r0 : List (A T)) : Option Bool := ocons r0 fun a0 r1 => ocons r1 fun a1 r2 => onil r2 (obind (argV (T := T) 65 a0) fun a0 => obind (argV (T := T) 65 a1) fun b1 => laws_eqSpot n a0 b1)
def laws_eqSpot_ent (n : Nat) : Ent T := ⟨105, 76, [], Bool, laws_eqSpot_D n, laws_eqSpot_enc⟩
def laws_eqStow_D (n : Nat) (r0 : List (A T)) : Option Bool := ocons r0 fun a0 r1 => ocons r1 fun a1 r2 => onil r2 (obind (argV (T := T) 67 a0) fun a0 => obind (argV (T := T) 67 a1) fun b1 => laws_eqStow n a0 b1)
def laws_eqStow_ent (n : Nat) : Ent T := ⟨58, 77, [], Bool, laws_eqStow_D n, laws_eqStow_enc⟩
def laws_eqStowS_D (n : Nat) (r0 : List (A T)) : Option Bool := ocons r0 fun a0 r1 => ocons r1 fun a1 r2 => onil r2 (obind (argV (T := T) 44 a0) fun a0 => obind (argV (T := T) 44 a1) fun b1 => laws_eqStowS n a0 b1)
def laws_eqStowS_ent (n : Nat) : Ent T := ⟨17, 78, [], Bool, laws_eqStowS_D n, laws_eqStowS_enc⟩
def laws_eqHatch_D (n : Nat) (r0 : List (A T)) : Option Bool := ocons r0 fun a0 r1 => ocons r1 fun a1 r2 => onil r2 (obind (argV (T := T) 96 a0) fun a0 => obind (argV (T := T) 96 a1) fun b1 => laws_eqHatch n a0 b1)
def laws_eqHatch_ent (n : Nat) : Ent T := ⟨59, 79, [], Bool, laws_eqHatch_D n, laws_eqHatch_enc⟩
def laws_eqHatchS_D (n : Nat) (r0 : List (A T)) : Option Bool := ocons r0 fun a0 r1 => ocons r1 fun a1 r2 => onil r2 (obind (argV (T := T) 47 a0) fun a0 => obind (argV (T := T) 47 a1) fun b1 => laws_eqHatchS n a0 b1)
def laws_eqHatchS_ent (n : Nat) : Ent T := ⟨18, 80, [], Bool, laws_eqHatchS_D n, laws_eqHatchS_enc⟩
def laws_eqBoxS_D (n : Nat) (r0 : List (A T)) : Option Bool := ocons r0 fun a0 r1 => ocons r1 fun a1 r2 => onil r2 (obind (argV (T := T) 49 a0) fun a0 => obind (argV (T := T) 49 a1) fun b1 => laws_eqBoxS n a0 b1)
def laws_eqBoxS_ent (n : Nat) : Ent T := ⟨19, 81, [], Bool, laws_eqBoxS_D n, laws_eqBoxS_enc⟩
def laws_markHatchS_D (n : Nat) (r0 : List (A T)) : Option (Int × List SHatch) := ocons r0 fun a0 r1 => ocons r1 fun a1 r2 => onil r2 (obind (argV (T := T) 47 a0) fun a0 => obind (argV (T := T) 3 a1) fun k1 => laws_markHatchS n a0 k1)
def laws_markHatchS_ent (n : Nat) : Ent T := ⟨20, 82, [], Int × List SHatch, laws_markHatchS_D n, laws_markHatchS_enc⟩
def laws_markText_D (n : Nat) (r0 : List (A T)) : Option ByteArray := ocons r0 fun a0 r1 => onil r1 (obind (argV (T := T) 3 a0) fun k0 => laws_markText n k0)
def laws_markText_ent (n : Nat) : Ent T := ⟨61, 83, [], ByteArray, laws_markText_D n, laws_markText_enc⟩
def laws_markBoxS_D (n : Nat) (r0 : List (A T)) : Option (Int × List SBox) := ocons r0 fun a0 r1 => ocons r1 fun a1 r2 => onil r2 (obind (argV (T := T) 49 a0) fun a0 => obind (argV (T := T) 3 a1) fun k1 => laws_markBoxS n a0 k1)
def laws_markBoxS_ent (n : Nat) : Ent T := ⟨21, 84, [], Int × List SBox, laws_markBoxS_D n, laws_markBoxS_enc⟩
def laws_markStowS_D (n : Nat) (r0 : List (A T)) : Option (Int × List SStow) := ocons r0 fun a0 r1 => ocons r1 fun a1 r2 => onil r2 (obind (argV (T := T) 44 a0) fun a0 => obind (argV (T := T) 3 a1) fun k1 => laws_markStowS n a0 k1)
def laws_markStowS_ent (n : Nat) : Ent T := ⟨22, 85, [], Int × List SStow, laws_markStowS_D n, laws_markStowS_enc⟩
def laws_heldStowS_D (n : Nat) (r0 : List (A T)) : Option Int := ocons r0 fun a0 r1 => ocons r1 fun a1 r2 => onil r2 (obind (argV (T := T) 44 a0) fun a0 => obind (argV (T := T) 3 a1) fun k1 => laws_heldStowS n a0 k1)
def laws_heldStowS_ent (n : Nat) : Ent T := ⟨23, 86, [], Int, laws_heldStowS_D n, laws_heldStowS_enc⟩
def laws_FnExactFewest_D (n : Nat) (r0 : List (A T)) : Option Bool := ocons r0 fun a0 r1 => ocons r1 fun a1 r2 => onil r2 (obind (argV (T := T) 40 a0) fun aBays0 => obind (argV (T := T) 41 a1) fun aBoxes1 => laws_FnExactFewest n aBays0 aBoxes1)
def laws_FnExactFewest_ent (n : Nat) : Ent T := ⟨4, 87, [], Bool, laws_FnExactFewest_D n, laws_FnExactFewest_enc⟩
def ents (n : Nat) : List (Ent T) := [laws_szHatchS_ent n, laws_szBox_ent n, laws_szBoxS_ent n, laws_toHatch_ent n, laws_toHatchS_ent n, laws_toBox_ent n, laws_toBoxS_ent n, spec_l1In_ent n, spec_HatchesOk_ent n, spec_l11Letter_ent n, spec_CheckDigit_ent n, spec_BoxName_ent n, spec_BoxOk_ent n, spec_l12At_ent n, spec_l12Stack_ent n, spec_StackOk_ent n, spec_l12Cold_ent n, spec_l11Spot_ent n, spec_l3Size_ent n, spec_l1Least_ent n, spec_Apart_ent n, spec_KeepsApart_ent n, spec_l12Fails_ent n, spec_StowCode_ent n, spec_l12Over_ent n, spec_l12Seek_ent n, spec_Fewest_ent n, impl_in_ent n, impl_HatchesOk_1_ent n, sIndex_HatchesOk_1_ent n, sContains_HatchesOk_1_ent n, impl_HatchesOk_ent n, impl_valueOf_ent n, impl_CheckDigit_ent n, impl_BoxName_ent n, impl_portOk_ent n, impl_BoxOk_ent n, impl_Fewest_1_ent n, sIndex_Fewest_1_ent n, sContains_Fewest_1_ent n, impl_StowCode_1_ent n, impl_StowCode_2_1_ent n, sIndex_StowCode_2_1_ent n, sContains_StowCode_2_1_ent n, impl_StowCode_2_ent n, impl_StowCode_3_ent n, impl_StowCode_4_1_ent n, sIndex_StowCode_4_1_ent n, sContains_StowCode_4_1_ent n, impl_StowCode_4_ent n, cmp_isNaN_int_ent n, cmp_Compare_int_ent n, impl_stackOf_1_ent n, sSort_stackOf_1_ent n, impl_stackOf_ent n, impl_StackOk_ent n, impl_StowCode_5_ent n, impl_StowCode_6_ent n, impl_spotOk_ent n, impl_size_ent n, impl_Apart_ent n, impl_KeepsApart_ent n, impl_StowCode_7_1_ent n, sIndex_StowCode_7_1_ent n, sContains_StowCode_7_1_ent n, impl_StowCode_7_ent n, impl_StowCode_ent n, impl_over_ent n, impl_overstows_ent n, impl_own_impl_Stow_ent n, impl_Fewest_2_1_ent n, sIndex_Fewest_2_1_ent n, sContains_Fewest_2_1_ent n, impl_Fewest_2__self_ent n, impl_Fewest_ent n, laws_eqBox_ent n, laws_eqSpot_ent n, laws_eqStow_ent n, laws_eqStowS_ent n, laws_eqHatch_ent n, laws_eqHatchS_ent n, laws_eqBoxS_ent n, laws_markHatchS_ent n, laws_markText_ent n, laws_markBoxS_ent n, laws_markStowS_ent n, laws_heldStowS_ent n, laws_FnExactFewest_ent n]
abbrev Phi (n i : Nat) {R : Type} (f : Nat) (ar : List (A T)) (K : Res T → Option R) : Option R := PhiE (ents n) i f ar K
theorem mixed : Try.prog.follows .mixedOrders = true := by kernel_rfl
noncomputable def laws_szHatchS_code : Code := match Try.f11.body with | some c => c | none => .skip
def laws_szHatchS_ann : Ann := fun id => none
def laws_szHatchS_Ls (n : Nat) : Nat → Option (LSpec T) := fun id => none
theorem laws_szHatchS_tie (n : Nat) (a0 : List SHatch) (left1 : Int) : evF (T := T) (Phi n 0) (laws_szHatchS_Ls n) laws_szHatchS_ann n Try.f11 (sg 11) [vA T 40 a0, vA T 3 left1] laws_szHatchS_dec = laws_szHatchS n a0 left1 := by kernel_rfl
theorem laws_szHatchS_lo (n : Nat) : LoopsOk (T := T) (Phi n 0) (laws_szHatchS_Ls n) laws_szHatchS_ann n laws_szHatchS_code := loopsOk_all (cs := []) (by kernel_rfl) trivial
theorem laws_szHatchS_ok (n : Nat) : EntOk Try.prog (ents n) (laws_szHatchS_ent n) := by
  intro hs ar y hg h
  replace h : laws_szHatchS_D n ar = some y := h
  unfold laws_szHatchS_D at h
  replace h := ocons_some h
  obtain ⟨a0, r0, rfl, h⟩ := h
  replace h := ocons_some h
  obtain ⟨a1, r1, rfl, h⟩ := h
  replace h := onil_some h
  obtain ⟨rfl, h⟩ := h
  obtain ⟨a0, qh0, h⟩ := obind_some h
  obtain ⟨left1, qh1, h⟩ := obind_some h
  rw [argV_eq ok qh0, argV_eq ok qh1]
  exact call_of (phiE_nat _ _) hs ok mixed Try.func11 (c := laws_szHatchS_code) (by kernel_rfl) (laws_szHatchS_lo n) (by kernel_rfl) (by kernel_rfl) (by kernel_rfl) laws_szHatchS_de ((laws_szHatchS_tie n a0 left1).trans h)
noncomputable def laws_szBox_code : Code := match Try.f43.body with | some c => c | none => .skip
def laws_szBox_ann : Ann := fun id => none
def laws_szBox_Ls (n : Nat) : Nat → Option (LSpec T) := fun id => none
theorem laws_szBox_tie (n : Nat) (a0 : SBox) (left1 : Int) : evF (T := T) (Phi n 1) (laws_szBox_Ls n) laws_szBox_ann n Try.f43 (sg 43) [vA T 91 a0, vA T 3 left1] laws_szBox_dec = laws_szBox n a0 left1 := by kernel_rfl
theorem laws_szBox_lo (n : Nat) : LoopsOk (T := T) (Phi n 1) (laws_szBox_Ls n) laws_szBox_ann n laws_szBox_code := loopsOk_all (cs := []) (by kernel_rfl) trivial
theorem laws_szBox_ok (n : Nat) : EntOk Try.prog (ents n) (laws_szBox_ent n) := by
  intro hs ar y hg h
  replace h : laws_szBox_D n ar = some y := h
  unfold laws_szBox_D at h
  replace h := ocons_some h
  obtain ⟨a0, r0, rfl, h⟩ := h
  replace h := ocons_some h
  obtain ⟨a1, r1, rfl, h⟩ := h
  replace h := onil_some h
  obtain ⟨rfl, h⟩ := h
  obtain ⟨a0, qh0, h⟩ := obind_some h
  obtain ⟨left1, qh1, h⟩ := obind_some h
  rw [argV_eq ok qh0, argV_eq ok qh1]
  exact call_of (phiE_nat _ _) hs ok mixed Try.func43 (c := laws_szBox_code) (by kernel_rfl) (laws_szBox_lo n) (by kernel_rfl) (by kernel_rfl) (by kernel_rfl) laws_szBox_de ((laws_szBox_tie n a0 left1).trans h)
noncomputable def laws_szBoxS_code : Code := match Try.f12.body with | some c => c | none => .skip
def laws_szBoxS_5_sv : List Sv := [.one (.arr 91), .one (.int .i64), .one (.int .i64)]
def laws_szBoxS_5_so : List So := []
def laws_szBoxS_5_emb (c : List SBox) (x : Int × Int) : EVs T laws_szBoxS_5_sv × EOs T laws_szBoxS_5_so := ((c, x.1, x.2, ()), ())
def laws_szBoxS_5_prj (y : EVs T laws_szBoxS_5_sv × EOs T laws_szBoxS_5_so) : List SBox × (Int × Int) := ((y.1.1), (y.1.2.1, y.1.2.2.1))
def laws_szBoxS_5_b (n : Nat) {R : Type} (K : Ex → Sm.St T → Option R) (c : List SBox) (x : Int × Int) (J : (Int × Int) → Option R) : Option R :=
  laws_szBoxS_L5 n (fun (y0 : Int) => K (.exit 0) (stOf (T := T) [1] [] [.one (.int .i64)] [] (y0, ()) ())) (fun (y0 : Int) => K .ret (stOf (T := T) [4] [] [.one (.int .i64)] [] (y0, ()) ())) (fun z0 z1 => J (z0, z1)) c x.1 x.2
def laws_szBoxS_5_sp (n : Nat) : LSpec T := mkSpec T ⟨[], [0, 1, 5], []⟩ laws_szBoxS_5_sv laws_szBoxS_5_so (List SBox) (Int × Int) laws_szBoxS_5_emb laws_szBoxS_5_prj (laws_szBoxS_5_b n)
noncomputable def laws_szBoxS_5_c : Code := ((loopCodes laws_szBoxS_code)[0]?).getD .skip
def laws_szBoxS_ann : Ann := fun id => bif Nat.beq id 3000005 then some ⟨[], [1], []⟩ else bif Nat.beq id 2000005 then some ⟨[], [4], []⟩ else none
def laws_szBoxS_Ls (n : Nat) : Nat → Option (LSpec T) := fun id => bif Nat.beq id 5 then some (laws_szBoxS_5_sp n) else none
theorem laws_szBoxS_5_le (n : Nat) : LoopEq (T := T) (Phi n 2) (laws_szBoxS_Ls n) laws_szBoxS_ann n laws_szBoxS_5_c (laws_szBoxS_5_sp n) := ⟨mkSpec_dec (fun y => rfl), fun c x => by kernel_rfl, fun K J c x => by kernel_rfl⟩
theorem laws_szBoxS_tie (n : Nat) (a0 : List SBox) (left1 : Int) : evF (T := T) (Phi n 2) (laws_szBoxS_Ls n) laws_szBoxS_ann n Try.f12 (sg 12) [vA T 41 a0, vA T 3 left1] laws_szBoxS_dec = laws_szBoxS n a0 left1 := by kernel_rfl
theorem laws_szBoxS_lo (n : Nat) : LoopsOk (T := T) (Phi n 2) (laws_szBoxS_Ls n) laws_szBoxS_ann n laws_szBoxS_code := loopsOk_all (cs := [laws_szBoxS_5_c]) (by kernel_rfl) ⟨⟨_, by kernel_rfl, laws_szBoxS_5_le n⟩, trivial⟩
theorem laws_szBoxS_ok (n : Nat) : EntOk Try.prog (ents n) (laws_szBoxS_ent n) := by
  intro hs ar y hg h
  replace h : laws_szBoxS_D n ar = some y := h
  unfold laws_szBoxS_D at h
  replace h := ocons_some h
  obtain ⟨a0, r0, rfl, h⟩ := h
  replace h := ocons_some h
  obtain ⟨a1, r1, rfl, h⟩ := h
  replace h := onil_some h
  obtain ⟨rfl, h⟩ := h
  obtain ⟨a0, qh0, h⟩ := obind_some h
  obtain ⟨left1, qh1, h⟩ := obind_some h
  rw [argV_eq ok qh0, argV_eq ok qh1]
  exact call_of (phiE_nat _ _) hs ok mixed Try.func12 (c := laws_szBoxS_code) (by kernel_rfl) (laws_szBoxS_lo n) (by kernel_rfl) (by kernel_rfl) (by kernel_rfl) laws_szBoxS_de ((laws_szBoxS_tie n a0 left1).trans h)
noncomputable def laws_toHatch_code : Code := match Try.f47.body with | some c => c | none => .skip
def laws_toHatch_ann : Ann := fun id => none
def laws_toHatch_Ls (n : Nat) : Nat → Option (LSpec T) := fun id => none
theorem laws_toHatch_tie (n : Nat) (a0 : SHatch) : evF (T := T) (Phi n 3) (laws_toHatch_Ls n) laws_toHatch_ann n Try.f47 (sg 47) [vA T 99 a0] laws_toHatch_dec = laws_toHatch n a0 := by kernel_rfl
theorem laws_toHatch_lo (n : Nat) : LoopsOk (T := T) (Phi n 3) (laws_toHatch_Ls n) laws_toHatch_ann n laws_toHatch_code := loopsOk_all (cs := []) (by kernel_rfl) trivial
theorem laws_toHatch_ok (n : Nat) : EntOk Try.prog (ents n) (laws_toHatch_ent n) := by
  intro hs ar y hg h
  replace h : laws_toHatch_D n ar = some y := h
  unfold laws_toHatch_D at h
  replace h := ocons_some h
  obtain ⟨a0, r0, rfl, h⟩ := h
  replace h := onil_some h
  obtain ⟨rfl, h⟩ := h
  obtain ⟨a0, qh0, h⟩ := obind_some h
  rw [argV_eq ok qh0]
  exact call_of (phiE_nat _ _) hs ok mixed Try.func47 (c := laws_toHatch_code) (by kernel_rfl) (laws_toHatch_lo n) (by kernel_rfl) (by kernel_rfl) (by kernel_rfl) laws_toHatch_de ((laws_toHatch_tie n a0).trans h)
noncomputable def laws_toHatchS_code : Code := match Try.f14.body with | some c => c | none => .skip
def laws_toHatchS_3_sv : List Sv := [.one (.arr 99), .one (.own 3000000 96 false), .one (.int .i64)]
def laws_toHatchS_3_so : List So := [.arr 96 false]
def laws_toHatchS_3_emb (c : List SHatch) (x : Int × List SHatch) : EVs T laws_toHatchS_3_sv × EOs T laws_toHatchS_3_so := ((c, (), x.1, ()), (x.2, ()))
def laws_toHatchS_3_prj (y : EVs T laws_toHatchS_3_sv × EOs T laws_toHatchS_3_so) : List SHatch × (Int × List SHatch) := ((y.1.1), (y.1.2.2.1, y.2.1))
def laws_toHatchS_3_b (n : Nat) {R : Type} (K : Ex → Sm.St T → Option R) (c : List SHatch) (x : Int × List SHatch) (J : (Int × List SHatch) → Option R) : Option R :=
  laws_toHatchS_L3 n (fun (y0 : List SHatch) => K (.exit 0) (stOf (T := T) [3] [3000000] [.one (.own 3000000 96 false)] [.arr 96 false] ((), ()) (y0, ()))) (fun z0 z1 => J (z0, z1)) c x.1 x.2
def laws_toHatchS_3_sp (n : Nat) : LSpec T := mkSpec T ⟨[((.reg 3), 3000000, 96)], [0, 3, 4], [3000000]⟩ laws_toHatchS_3_sv laws_toHatchS_3_so (List SHatch) (Int × List SHatch) laws_toHatchS_3_emb laws_toHatchS_3_prj (laws_toHatchS_3_b n)
noncomputable def laws_toHatchS_3_c : Code := ((loopCodes laws_toHatchS_code)[0]?).getD .skip
def laws_toHatchS_ann : Ann := fun id => bif Nat.beq id 3000003 then some ⟨[((.reg 3), 3000000, 96)], [3], [3000000]⟩ else none
def laws_toHatchS_Ls (n : Nat) : Nat → Option (LSpec T) := fun id => bif Nat.beq id 3 then some (laws_toHatchS_3_sp n) else none
theorem laws_toHatchS_3_le (n : Nat) : LoopEq (T := T) (Phi n 4) (laws_toHatchS_Ls n) laws_toHatchS_ann n laws_toHatchS_3_c (laws_toHatchS_3_sp n) := ⟨mkSpec_dec (fun y => rfl), fun c x => by kernel_rfl, fun K J c x => by kernel_rfl⟩
theorem laws_toHatchS_tie (n : Nat) (a0 : List SHatch) : evF (T := T) (Phi n 4) (laws_toHatchS_Ls n) laws_toHatchS_ann n Try.f14 (sg 14) [vA T 40 a0] laws_toHatchS_dec = laws_toHatchS n a0 := by kernel_rfl
theorem laws_toHatchS_lo (n : Nat) : LoopsOk (T := T) (Phi n 4) (laws_toHatchS_Ls n) laws_toHatchS_ann n laws_toHatchS_code := loopsOk_all (cs := [laws_toHatchS_3_c]) (by kernel_rfl) ⟨⟨_, by kernel_rfl, laws_toHatchS_3_le n⟩, trivial⟩
theorem laws_toHatchS_ok (n : Nat) : EntOk Try.prog (ents n) (laws_toHatchS_ent n) := by
  intro hs ar y hg h
  replace h : laws_toHatchS_D n ar = some y := h
  unfold laws_toHatchS_D at h
  replace h := ocons_some h
  obtain ⟨a0, r0, rfl, h⟩ := h
  replace h := onil_some h
  obtain ⟨rfl, h⟩ := h
  obtain ⟨a0, qh0, h⟩ := obind_some h
  rw [argV_eq ok qh0]
  exact call_of (phiE_nat _ _) hs ok mixed Try.func14 (c := laws_toHatchS_code) (by kernel_rfl) (laws_toHatchS_lo n) (by kernel_rfl) (by kernel_rfl) (by kernel_rfl) laws_toHatchS_de ((laws_toHatchS_tie n a0).trans h)
noncomputable def laws_toBox_code : Code := match Try.f48.body with | some c => c | none => .skip
def laws_toBox_ann : Ann := fun id => none
def laws_toBox_Ls (n : Nat) : Nat → Option (LSpec T) := fun id => none
theorem laws_toBox_tie (n : Nat) (a0 : SBox) : evF (T := T) (Phi n 5) (laws_toBox_Ls n) laws_toBox_ann n Try.f48 (sg 48) [vA T 91 a0] laws_toBox_dec = laws_toBox n a0 := by kernel_rfl
theorem laws_toBox_lo (n : Nat) : LoopsOk (T := T) (Phi n 5) (laws_toBox_Ls n) laws_toBox_ann n laws_toBox_code := loopsOk_all (cs := []) (by kernel_rfl) trivial
theorem laws_toBox_ok (n : Nat) : EntOk Try.prog (ents n) (laws_toBox_ent n) := by
  intro hs ar y hg h
  replace h : laws_toBox_D n ar = some y := h
  unfold laws_toBox_D at h
  replace h := ocons_some h
  obtain ⟨a0, r0, rfl, h⟩ := h
  replace h := onil_some h
  obtain ⟨rfl, h⟩ := h
  obtain ⟨a0, qh0, h⟩ := obind_some h
  rw [argV_eq ok qh0]
  exact call_of (phiE_nat _ _) hs ok mixed Try.func48 (c := laws_toBox_code) (by kernel_rfl) (laws_toBox_lo n) (by kernel_rfl) (by kernel_rfl) (by kernel_rfl) laws_toBox_de ((laws_toBox_tie n a0).trans h)
noncomputable def laws_toBoxS_code : Code := match Try.f15.body with | some c => c | none => .skip
def laws_toBoxS_3_sv : List Sv := [.one (.arr 91), .one (.own 3000000 63 false), .one (.int .i64)]
def laws_toBoxS_3_so : List So := [.arr 63 false]
def laws_toBoxS_3_emb (c : List SBox) (x : Int × List SBox) : EVs T laws_toBoxS_3_sv × EOs T laws_toBoxS_3_so := ((c, (), x.1, ()), (x.2, ()))
def laws_toBoxS_3_prj (y : EVs T laws_toBoxS_3_sv × EOs T laws_toBoxS_3_so) : List SBox × (Int × List SBox) := ((y.1.1), (y.1.2.2.1, y.2.1))
def laws_toBoxS_3_b (n : Nat) {R : Type} (K : Ex → Sm.St T → Option R) (c : List SBox) (x : Int × List SBox) (J : (Int × List SBox) → Option R) : Option R :=
  laws_toBoxS_L3 n (fun (y0 : List SBox) => K (.exit 0) (stOf (T := T) [3] [3000000] [.one (.own 3000000 63 false)] [.arr 63 false] ((), ()) (y0, ()))) (fun z0 z1 => J (z0, z1)) c x.1 x.2
def laws_toBoxS_3_sp (n : Nat) : LSpec T := mkSpec T ⟨[((.reg 3), 3000000, 63)], [0, 3, 4], [3000000]⟩ laws_toBoxS_3_sv laws_toBoxS_3_so (List SBox) (Int × List SBox) laws_toBoxS_3_emb laws_toBoxS_3_prj (laws_toBoxS_3_b n)
noncomputable def laws_toBoxS_3_c : Code := ((loopCodes laws_toBoxS_code)[0]?).getD .skip
def laws_toBoxS_ann : Ann := fun id => bif Nat.beq id 3000003 then some ⟨[((.reg 3), 3000000, 63)], [3], [3000000]⟩ else none
def laws_toBoxS_Ls (n : Nat) : Nat → Option (LSpec T) := fun id => bif Nat.beq id 3 then some (laws_toBoxS_3_sp n) else none
theorem laws_toBoxS_3_le (n : Nat) : LoopEq (T := T) (Phi n 6) (laws_toBoxS_Ls n) laws_toBoxS_ann n laws_toBoxS_3_c (laws_toBoxS_3_sp n) := ⟨mkSpec_dec (fun y => rfl), fun c x => by kernel_rfl, fun K J c x => by kernel_rfl⟩
theorem laws_toBoxS_tie (n : Nat) (a0 : List SBox) : evF (T := T) (Phi n 6) (laws_toBoxS_Ls n) laws_toBoxS_ann n Try.f15 (sg 15) [vA T 41 a0] laws_toBoxS_dec = laws_toBoxS n a0 := by kernel_rfl
theorem laws_toBoxS_lo (n : Nat) : LoopsOk (T := T) (Phi n 6) (laws_toBoxS_Ls n) laws_toBoxS_ann n laws_toBoxS_code := loopsOk_all (cs := [laws_toBoxS_3_c]) (by kernel_rfl) ⟨⟨_, by kernel_rfl, laws_toBoxS_3_le n⟩, trivial⟩
theorem laws_toBoxS_ok (n : Nat) : EntOk Try.prog (ents n) (laws_toBoxS_ent n) := by
  intro hs ar y hg h
  replace h : laws_toBoxS_D n ar = some y := h
  unfold laws_toBoxS_D at h
  replace h := ocons_some h
  obtain ⟨a0, r0, rfl, h⟩ := h
  replace h := onil_some h
  obtain ⟨rfl, h⟩ := h
  obtain ⟨a0, qh0, h⟩ := obind_some h
  rw [argV_eq ok qh0]
  exact call_of (phiE_nat _ _) hs ok mixed Try.func15 (c := laws_toBoxS_code) (by kernel_rfl) (laws_toBoxS_lo n) (by kernel_rfl) (by kernel_rfl) (by kernel_rfl) laws_toBoxS_de ((laws_toBoxS_tie n a0).trans h)
noncomputable def spec_l1In_code : Code := match Try.f93.body with | some c => c | none => .skip
def spec_l1In_ann : Ann := fun id => none
def spec_l1In_Ls (n : Nat) : Nat → Option (LSpec T) := fun id => none
theorem spec_l1In_tie (n : Nat) (x0 : Int) (a1 : Int) (b2 : Int) : evF (T := T) (Phi n 7) (spec_l1In_Ls n) spec_l1In_ann n Try.f93 (sg 93) [vA T 3 x0, vA T 3 a1, vA T 3 b2] spec_l1In_dec = spec_l1In n x0 a1 b2 := by kernel_rfl
theorem spec_l1In_lo (n : Nat) : LoopsOk (T := T) (Phi n 7) (spec_l1In_Ls n) spec_l1In_ann n spec_l1In_code := loopsOk_all (cs := []) (by kernel_rfl) trivial
theorem spec_l1In_ok (n : Nat) : EntOk Try.prog (ents n) (spec_l1In_ent n) := by
  intro hs ar y hg h
  replace h : spec_l1In_D n ar = some y := h
  unfold spec_l1In_D at h
  replace h := ocons_some h
  obtain ⟨a0, r0, rfl, h⟩ := h
  replace h := ocons_some h
  obtain ⟨a1, r1, rfl, h⟩ := h
  replace h := ocons_some h
  obtain ⟨a2, r2, rfl, h⟩ := h
  replace h := onil_some h
  obtain ⟨rfl, h⟩ := h
  obtain ⟨x0, qh0, h⟩ := obind_some h
  obtain ⟨a1, qh1, h⟩ := obind_some h
  obtain ⟨b2, qh2, h⟩ := obind_some h
  rw [argV_eq ok qh0, argV_eq ok qh1, argV_eq ok qh2]
  exact call_of (phiE_nat _ _) hs ok mixed Try.func93 (c := spec_l1In_code) (by kernel_rfl) (spec_l1In_lo n) (by kernel_rfl) (by kernel_rfl) (by kernel_rfl) spec_l1In_de ((spec_l1In_tie n x0 a1 b2).trans h)
noncomputable def spec_HatchesOk_code : Code := match Try.f44.body with | some c => c | none => .skip
def spec_HatchesOk_2_sv : List Sv := [.one (.arr 96), .one (.int .i64)]
def spec_HatchesOk_2_so : List So := []
def spec_HatchesOk_2_emb (c : List SHatch) (x : Int) : EVs T spec_HatchesOk_2_sv × EOs T spec_HatchesOk_2_so := ((c, x, ()), ())
def spec_HatchesOk_2_prj (y : EVs T spec_HatchesOk_2_sv × EOs T spec_HatchesOk_2_so) : List SHatch × Int := ((y.1.1), (y.1.2.1))
def spec_HatchesOk_2_b (n : Nat) {R : Type} (K : Ex → Sm.St T → Option R) (c : List SHatch) (x : Int) (J : Int → Option R) : Option R :=
  spec_HatchesOk_L2 n (K (.exit 0) (stOf (T := T) [0] [] [.one (.arr 96)] [] (c, ()) ())) (fun (y0 : Bool) => K .ret (stOf (T := T) [2] [] [.one (.bool)] [] (y0, ()) ())) J c x
def spec_HatchesOk_2_sp (n : Nat) : LSpec T := mkSpec T ⟨[], [0, 3], []⟩ spec_HatchesOk_2_sv spec_HatchesOk_2_so (List SHatch) (Int) spec_HatchesOk_2_emb spec_HatchesOk_2_prj (spec_HatchesOk_2_b n)
noncomputable def spec_HatchesOk_2_c : Code := ((loopCodes spec_HatchesOk_code)[0]?).getD .skip
def spec_HatchesOk_ann : Ann := fun id => bif Nat.beq id 3000002 then some ⟨[], [0], []⟩ else bif Nat.beq id 2000002 then some ⟨[], [2], []⟩ else none
def spec_HatchesOk_Ls (n : Nat) : Nat → Option (LSpec T) := fun id => bif Nat.beq id 2 then some (spec_HatchesOk_2_sp n) else none
theorem spec_HatchesOk_2_le (n : Nat) : LoopEq (T := T) (Phi n 8) (spec_HatchesOk_Ls n) spec_HatchesOk_ann n spec_HatchesOk_2_c (spec_HatchesOk_2_sp n) := ⟨mkSpec_dec (fun y => rfl), fun c x => by kernel_rfl, fun K J c x => by kernel_rfl⟩
theorem spec_HatchesOk_tie (n : Nat) (bays0 : List SHatch) : evF (T := T) (Phi n 8) (spec_HatchesOk_Ls n) spec_HatchesOk_ann n Try.f44 (sg 44) [vA T 47 bays0] spec_HatchesOk_dec = spec_HatchesOk n bays0 := by kernel_rfl
theorem spec_HatchesOk_lo (n : Nat) : LoopsOk (T := T) (Phi n 8) (spec_HatchesOk_Ls n) spec_HatchesOk_ann n spec_HatchesOk_code := loopsOk_all (cs := [spec_HatchesOk_2_c]) (by kernel_rfl) ⟨⟨_, by kernel_rfl, spec_HatchesOk_2_le n⟩, trivial⟩
theorem spec_HatchesOk_ok (n : Nat) : EntOk Try.prog (ents n) (spec_HatchesOk_ent n) := by
  intro hs ar y hg h
  replace h : spec_HatchesOk_D n ar = some y := h
  unfold spec_HatchesOk_D at h
  replace h := ocons_some h
  obtain ⟨a0, r0, rfl, h⟩ := h
  replace h := onil_some h
  obtain ⟨rfl, h⟩ := h
  obtain ⟨bays0, qh0, h⟩ := obind_some h
  rw [argV_eq ok qh0]
  exact call_of (phiE_nat _ _) hs ok mixed Try.func44 (c := spec_HatchesOk_code) (by kernel_rfl) (spec_HatchesOk_lo n) (by kernel_rfl) (by kernel_rfl) (by kernel_rfl) spec_HatchesOk_de ((spec_HatchesOk_tie n bays0).trans h)
noncomputable def spec_l11Letter_code : Code := match Try.f123.body with | some c => c | none => .skip
def spec_l11Letter_2_sv : List Sv := [.one (.int .i64), .one (.int .i64)]
def spec_l11Letter_2_so : List So := []
def spec_l11Letter_2_emb (c : Unit) (x : Int × Int) : EVs T spec_l11Letter_2_sv × EOs T spec_l11Letter_2_so := ((x.1, x.2, ()), ())
def spec_l11Letter_2_prj (y : EVs T spec_l11Letter_2_sv × EOs T spec_l11Letter_2_so) : Unit × (Int × Int) := ((), (y.1.1, y.1.2.1))
def spec_l11Letter_2_b (n : Nat) {R : Type} (K : Ex → Sm.St T → Option R) (c : Unit) (x : Int × Int) (J : (Int × Int) → Option R) : Option R :=
  spec_l11Letter_L2 n (fun (y0 : Int) => K (.exit 0) (stOf (T := T) [3] [] [.one (.int .i64)] [] (y0, ()) ())) (fun z0 z1 => J (z0, z1)) x.1 x.2
def spec_l11Letter_2_sp (n : Nat) : LSpec T := mkSpec T ⟨[], [0, 3], []⟩ spec_l11Letter_2_sv spec_l11Letter_2_so (Unit) (Int × Int) spec_l11Letter_2_emb spec_l11Letter_2_prj (spec_l11Letter_2_b n)
noncomputable def spec_l11Letter_2_c : Code := ((loopCodes spec_l11Letter_code)[0]?).getD .skip
def spec_l11Letter_ann : Ann := fun id => bif Nat.beq id 3000002 then some ⟨[], [3], []⟩ else none
def spec_l11Letter_Ls (n : Nat) : Nat → Option (LSpec T) := fun id => bif Nat.beq id 2 then some (spec_l11Letter_2_sp n) else none
theorem spec_l11Letter_2_le (n : Nat) : LoopEq (T := T) (Phi n 9) (spec_l11Letter_Ls n) spec_l11Letter_ann n spec_l11Letter_2_c (spec_l11Letter_2_sp n) := ⟨mkSpec_dec (fun y => rfl), fun c x => by kernel_rfl, fun K J c x => by kernel_rfl⟩
theorem spec_l11Letter_tie (n : Nat) (k0 : Int) : evF (T := T) (Phi n 9) (spec_l11Letter_Ls n) spec_l11Letter_ann n Try.f123 (sg 123) [vA T 3 k0] spec_l11Letter_dec = spec_l11Letter n k0 := by kernel_rfl
theorem spec_l11Letter_lo (n : Nat) : LoopsOk (T := T) (Phi n 9) (spec_l11Letter_Ls n) spec_l11Letter_ann n spec_l11Letter_code := loopsOk_all (cs := [spec_l11Letter_2_c]) (by kernel_rfl) ⟨⟨_, by kernel_rfl, spec_l11Letter_2_le n⟩, trivial⟩
theorem spec_l11Letter_ok (n : Nat) : EntOk Try.prog (ents n) (spec_l11Letter_ent n) := by
  intro hs ar y hg h
  replace h : spec_l11Letter_D n ar = some y := h
  unfold spec_l11Letter_D at h
  replace h := ocons_some h
  obtain ⟨a0, r0, rfl, h⟩ := h
  replace h := onil_some h
  obtain ⟨rfl, h⟩ := h
  obtain ⟨k0, qh0, h⟩ := obind_some h
  rw [argV_eq ok qh0]
  exact call_of (phiE_nat _ _) hs ok mixed Try.func123 (c := spec_l11Letter_code) (by kernel_rfl) (spec_l11Letter_lo n) (by kernel_rfl) (by kernel_rfl) (by kernel_rfl) spec_l11Letter_de ((spec_l11Letter_tie n k0).trans h)
noncomputable def spec_CheckDigit_code : Code := match Try.f115.body with | some c => c | none => .skip
def spec_CheckDigit_5_sv : List Sv := [.one (.str), .one (.int .i64), .one (.int .i64)]
def spec_CheckDigit_5_so : List So := []
def spec_CheckDigit_5_emb (c : ByteArray) (x : Int × Int) : EVs T spec_CheckDigit_5_sv × EOs T spec_CheckDigit_5_so := ((c, x.1, x.2, ()), ())
def spec_CheckDigit_5_prj (y : EVs T spec_CheckDigit_5_sv × EOs T spec_CheckDigit_5_so) : ByteArray × (Int × Int) := ((y.1.1), (y.1.2.1, y.1.2.2.1))
def spec_CheckDigit_5_b (n : Nat) {R : Type} (K : Ex → Sm.St T → Option R) (c : ByteArray) (x : Int × Int) (J : (Int × Int) → Option R) : Option R :=
  spec_CheckDigit_L5 n (fun (y0 : Int) => K (.exit 0) (stOf (T := T) [3] [] [.one (.int .i64)] [] (y0, ()) ())) (fun (y0 : Int) => K .ret (stOf (T := T) [2] [] [.one (.int .i64)] [] (y0, ()) ())) (fun z0 z1 => J (z0, z1)) c x.1 x.2
def spec_CheckDigit_5_sp (n : Nat) : LSpec T := mkSpec T ⟨[], [0, 3, 4], []⟩ spec_CheckDigit_5_sv spec_CheckDigit_5_so (ByteArray) (Int × Int) spec_CheckDigit_5_emb spec_CheckDigit_5_prj (spec_CheckDigit_5_b n)
noncomputable def spec_CheckDigit_5_c : Code := ((loopCodes spec_CheckDigit_code)[0]?).getD .skip
def spec_CheckDigit_ann : Ann := fun id => bif Nat.beq id 3000005 then some ⟨[], [3], []⟩ else bif Nat.beq id 2000005 then some ⟨[], [2], []⟩ else none
def spec_CheckDigit_Ls (n : Nat) : Nat → Option (LSpec T) := fun id => bif Nat.beq id 5 then some (spec_CheckDigit_5_sp n) else none
theorem spec_CheckDigit_5_le (n : Nat) : LoopEq (T := T) (Phi n 10) (spec_CheckDigit_Ls n) spec_CheckDigit_ann n spec_CheckDigit_5_c (spec_CheckDigit_5_sp n) := ⟨mkSpec_dec (fun y => rfl), fun c x => by kernel_rfl, fun K J c x => by kernel_rfl⟩
theorem spec_CheckDigit_tie (n : Nat) (name0 : ByteArray) : evF (T := T) (Phi n 10) (spec_CheckDigit_Ls n) spec_CheckDigit_ann n Try.f115 (sg 115) [vA T 9 name0] spec_CheckDigit_dec = spec_CheckDigit n name0 := by kernel_rfl
theorem spec_CheckDigit_lo (n : Nat) : LoopsOk (T := T) (Phi n 10) (spec_CheckDigit_Ls n) spec_CheckDigit_ann n spec_CheckDigit_code := loopsOk_all (cs := [spec_CheckDigit_5_c]) (by kernel_rfl) ⟨⟨_, by kernel_rfl, spec_CheckDigit_5_le n⟩, trivial⟩
theorem spec_CheckDigit_ok (n : Nat) : EntOk Try.prog (ents n) (spec_CheckDigit_ent n) := by
  intro hs ar y hg h
  replace h : spec_CheckDigit_D n ar = some y := h
  unfold spec_CheckDigit_D at h
  replace h := ocons_some h
  obtain ⟨a0, r0, rfl, h⟩ := h
  replace h := onil_some h
  obtain ⟨rfl, h⟩ := h
  obtain ⟨name0, qh0, h⟩ := obind_some h
  rw [argV_eq ok qh0]
  exact call_of (phiE_nat _ _) hs ok mixed Try.func115 (c := spec_CheckDigit_code) (by kernel_rfl) (spec_CheckDigit_lo n) (by kernel_rfl) (by kernel_rfl) (by kernel_rfl) spec_CheckDigit_de ((spec_CheckDigit_tie n name0).trans h)
noncomputable def spec_BoxName_code : Code := match Try.f94.body with | some c => c | none => .skip
def spec_BoxName_ann : Ann := fun id => none
def spec_BoxName_Ls (n : Nat) : Nat → Option (LSpec T) := fun id => none
theorem spec_BoxName_tie (n : Nat) (text0 : ByteArray) : evF (T := T) (Phi n 11) (spec_BoxName_Ls n) spec_BoxName_ann n Try.f94 (sg 94) [vA T 9 text0] spec_BoxName_dec = spec_BoxName n text0 := by kernel_rfl
theorem spec_BoxName_lo (n : Nat) : LoopsOk (T := T) (Phi n 11) (spec_BoxName_Ls n) spec_BoxName_ann n spec_BoxName_code := loopsOk_all (cs := []) (by kernel_rfl) trivial
theorem spec_BoxName_ok (n : Nat) : EntOk Try.prog (ents n) (spec_BoxName_ent n) := by
  intro hs ar y hg h
  replace h : spec_BoxName_D n ar = some y := h
  unfold spec_BoxName_D at h
  replace h := ocons_some h
  obtain ⟨a0, r0, rfl, h⟩ := h
  replace h := onil_some h
  obtain ⟨rfl, h⟩ := h
  obtain ⟨text0, qh0, h⟩ := obind_some h
  rw [argV_eq ok qh0]
  exact call_of (phiE_nat _ _) hs ok mixed Try.func94 (c := spec_BoxName_code) (by kernel_rfl) (spec_BoxName_lo n) (by kernel_rfl) (by kernel_rfl) (by kernel_rfl) spec_BoxName_de ((spec_BoxName_tie n text0).trans h)
noncomputable def spec_BoxOk_code : Code := match Try.f45.body with | some c => c | none => .skip
def spec_BoxOk_ann : Ann := fun id => none
def spec_BoxOk_Ls (n : Nat) : Nat → Option (LSpec T) := fun id => none
theorem spec_BoxOk_tie (n : Nat) (b0 : SBox) : evF (T := T) (Phi n 12) (spec_BoxOk_Ls n) spec_BoxOk_ann n Try.f45 (sg 45) [vA T 63 b0] spec_BoxOk_dec = spec_BoxOk n b0 := by kernel_rfl
theorem spec_BoxOk_lo (n : Nat) : LoopsOk (T := T) (Phi n 12) (spec_BoxOk_Ls n) spec_BoxOk_ann n spec_BoxOk_code := loopsOk_all (cs := []) (by kernel_rfl) trivial
theorem spec_BoxOk_ok (n : Nat) : EntOk Try.prog (ents n) (spec_BoxOk_ent n) := by
  intro hs ar y hg h
  replace h : spec_BoxOk_D n ar = some y := h
  unfold spec_BoxOk_D at h
  replace h := ocons_some h
  obtain ⟨a0, r0, rfl, h⟩ := h
  replace h := onil_some h
  obtain ⟨rfl, h⟩ := h
  obtain ⟨b0, qh0, h⟩ := obind_some h
  rw [argV_eq ok qh0]
  exact call_of (phiE_nat _ _) hs ok mixed Try.func45 (c := spec_BoxOk_code) (by kernel_rfl) (spec_BoxOk_lo n) (by kernel_rfl) (by kernel_rfl) (by kernel_rfl) spec_BoxOk_de ((spec_BoxOk_tie n b0).trans h)
noncomputable def spec_l12At_code : Code := match Try.f97.body with | some c => c | none => .skip
def spec_l12At_2_sv : List Sv := [.one (.arr 67), .one (.ptr 24 0 0), .one (.int .i64)]
def spec_l12At_2_so : List So := [.var [.int .i64, .int .i64, .int .i64]]
def spec_l12At_2_emb (c : List SStow × SSpot) (x : Int) : EVs T spec_l12At_2_sv × EOs T spec_l12At_2_so := ((c.1, (), x, ()), ((c.2.Bay, c.2.Row, c.2.Tier, ()), ()))
def spec_l12At_2_prj (y : EVs T spec_l12At_2_sv × EOs T spec_l12At_2_so) : (List SStow × SSpot) × Int := ((y.1.1, ((⟨y.2.1.1, y.2.1.2.1, y.2.1.2.2.1⟩ : SSpot) : SSpot)), (y.1.2.2.1))
def spec_l12At_2_b (n : Nat) {R : Type} (K : Ex → Sm.St T → Option R) (c : List SStow × SSpot) (x : Int) (J : Int → Option R) : Option R :=
  spec_l12At_L2 n (K (.exit 0) (stOf (T := T) [] [] [] [] () ())) (fun (y0 : Int) => K .ret (stOf (T := T) [4] [] [.one (.int .i64)] [] (y0, ()) ())) J c.1 x c.2
def spec_l12At_2_sp (n : Nat) : LSpec T := mkSpec T ⟨[], [0, 3, 5], [24]⟩ spec_l12At_2_sv spec_l12At_2_so (List SStow × SSpot) (Int) spec_l12At_2_emb spec_l12At_2_prj (spec_l12At_2_b n)
noncomputable def spec_l12At_2_c : Code := ((loopCodes spec_l12At_code)[0]?).getD .skip
def spec_l12At_ann : Ann := fun id => bif Nat.beq id 3000002 then some ⟨[], [], []⟩ else bif Nat.beq id 2000002 then some ⟨[], [4], []⟩ else none
def spec_l12At_Ls (n : Nat) : Nat → Option (LSpec T) := fun id => bif Nat.beq id 2 then some (spec_l12At_2_sp n) else none
theorem spec_l12At_2_le (n : Nat) : LoopEq (T := T) (Phi n 13) (spec_l12At_Ls n) spec_l12At_ann n spec_l12At_2_c (spec_l12At_2_sp n) := ⟨mkSpec_dec (fun y => rfl), fun c x => by kernel_rfl, fun K J c x => by kernel_rfl⟩
theorem spec_l12At_tie (n : Nat) (list0 : List SStow) (s1 : SSpot) : evF (T := T) (Phi n 13) (spec_l12At_Ls n) spec_l12At_ann n Try.f97 (sg 97) [vA T 44 list0, vA T 65 s1] spec_l12At_dec = spec_l12At n list0 s1 := by kernel_rfl
theorem spec_l12At_lo (n : Nat) : LoopsOk (T := T) (Phi n 13) (spec_l12At_Ls n) spec_l12At_ann n spec_l12At_code := loopsOk_all (cs := [spec_l12At_2_c]) (by kernel_rfl) ⟨⟨_, by kernel_rfl, spec_l12At_2_le n⟩, trivial⟩
theorem spec_l12At_ok (n : Nat) : EntOk Try.prog (ents n) (spec_l12At_ent n) := by
  intro hs ar y hg h
  replace h : spec_l12At_D n ar = some y := h
  unfold spec_l12At_D at h
  replace h := ocons_some h
  obtain ⟨a0, r0, rfl, h⟩ := h
  replace h := ocons_some h
  obtain ⟨a1, r1, rfl, h⟩ := h
  replace h := onil_some h
  obtain ⟨rfl, h⟩ := h
  obtain ⟨list0, qh0, h⟩ := obind_some h
  obtain ⟨s1, qh1, h⟩ := obind_some h
  rw [argV_eq ok qh0, argV_eq ok qh1]
  exact call_of (phiE_nat _ _) hs ok mixed Try.func97 (c := spec_l12At_code) (by kernel_rfl) (spec_l12At_lo n) (by kernel_rfl) (by kernel_rfl) (by kernel_rfl) spec_l12At_de ((spec_l12At_tie n list0 s1).trans h)
noncomputable def spec_l12Stack_code : Code := match Try.f125.body with | some c => c | none => .skip
def spec_l12Stack_3_sv : List Sv := [.one (.arr 67), .one (.int .i64), .one (.int .i64), .one (.own 3000000 63 false), .one (.int .i64)]
def spec_l12Stack_3_so : List So := [.arr 63 false]
def spec_l12Stack_3_emb (c : List SStow × Int × Int) (x : Int × List SBox) : EVs T spec_l12Stack_3_sv × EOs T spec_l12Stack_3_so := ((c.1, c.2.1, c.2.2, (), x.1, ()), (x.2, ()))
def spec_l12Stack_3_prj (y : EVs T spec_l12Stack_3_sv × EOs T spec_l12Stack_3_so) : (List SStow × Int × Int) × (Int × List SBox) := ((y.1.1, y.1.2.1, y.1.2.2.1), (y.1.2.2.2.2.1, y.2.1))
def spec_l12Stack_3_b (n : Nat) {R : Type} (K : Ex → Sm.St T → Option R) (c : List SStow × Int × Int) (x : Int × List SBox) (J : (Int × List SBox) → Option R) : Option R :=
  spec_l12Stack_L3 n (fun (y0 : List SBox) => K (.exit 0) (stOf (T := T) [7] [3000000] [.one (.own 3000000 63 false)] [.arr 63 false] ((), ()) (y0, ()))) (fun z0 z1 => J (z0, z1)) c.1 c.2.1 c.2.2 x.1 x.2
def spec_l12Stack_3_sp (n : Nat) : LSpec T := mkSpec T ⟨[((.reg 7), 3000000, 63)], [0, 1, 2, 7, 8], [3000000]⟩ spec_l12Stack_3_sv spec_l12Stack_3_so (List SStow × Int × Int) (Int × List SBox) spec_l12Stack_3_emb spec_l12Stack_3_prj (spec_l12Stack_3_b n)
noncomputable def spec_l12Stack_3_c : Code := ((loopCodes spec_l12Stack_code)[0]?).getD .skip
def spec_l12Stack_ann : Ann := fun id => bif Nat.beq id 3000003 then some ⟨[((.reg 7), 3000000, 63)], [7], [3000000]⟩ else none
def spec_l12Stack_Ls (n : Nat) : Nat → Option (LSpec T) := fun id => bif Nat.beq id 3 then some (spec_l12Stack_3_sp n) else none
theorem spec_l12Stack_3_le (n : Nat) : LoopEq (T := T) (Phi n 14) (spec_l12Stack_Ls n) spec_l12Stack_ann n spec_l12Stack_3_c (spec_l12Stack_3_sp n) := ⟨mkSpec_dec (fun y => rfl), fun c x => by kernel_rfl, fun K J c x => by kernel_rfl⟩
theorem spec_l12Stack_tie (n : Nat) (list0 : List SStow) (bay1 : Int) (row2 : Int) : evF (T := T) (Phi n 14) (spec_l12Stack_Ls n) spec_l12Stack_ann n Try.f125 (sg 125) [vA T 44 list0, vA T 3 bay1, vA T 3 row2] spec_l12Stack_dec = spec_l12Stack n list0 bay1 row2 := by kernel_rfl
theorem spec_l12Stack_lo (n : Nat) : LoopsOk (T := T) (Phi n 14) (spec_l12Stack_Ls n) spec_l12Stack_ann n spec_l12Stack_code := loopsOk_all (cs := [spec_l12Stack_3_c]) (by kernel_rfl) ⟨⟨_, by kernel_rfl, spec_l12Stack_3_le n⟩, trivial⟩
theorem spec_l12Stack_ok (n : Nat) : EntOk Try.prog (ents n) (spec_l12Stack_ent n) := by
  intro hs ar y hg h
  replace h : spec_l12Stack_D n ar = some y := h
  unfold spec_l12Stack_D at h
  replace h := ocons_some h
  obtain ⟨a0, r0, rfl, h⟩ := h
  replace h := ocons_some h
  obtain ⟨a1, r1, rfl, h⟩ := h
  replace h := ocons_some h
  obtain ⟨a2, r2, rfl, h⟩ := h
  replace h := onil_some h
  obtain ⟨rfl, h⟩ := h
  obtain ⟨list0, qh0, h⟩ := obind_some h
  obtain ⟨bay1, qh1, h⟩ := obind_some h
  obtain ⟨row2, qh2, h⟩ := obind_some h
  rw [argV_eq ok qh0, argV_eq ok qh1, argV_eq ok qh2]
  exact call_of (phiE_nat _ _) hs ok mixed Try.func125 (c := spec_l12Stack_code) (by kernel_rfl) (spec_l12Stack_lo n) (by kernel_rfl) (by kernel_rfl) (by kernel_rfl) spec_l12Stack_de ((spec_l12Stack_tie n list0 bay1 row2).trans h)
noncomputable def spec_StackOk_code : Code := match Try.f124.body with | some c => c | none => .skip
def spec_StackOk_3_sv : List Sv := [.one (.arr 63), .one (.int .i64), .one (.int .i64), .one (.int .i64)]
def spec_StackOk_3_so : List So := []
def spec_StackOk_3_emb (c : List SBox × Int) (x : Int × Int) : EVs T spec_StackOk_3_sv × EOs T spec_StackOk_3_so := ((c.1, c.2, x.1, x.2, ()), ())
def spec_StackOk_3_prj (y : EVs T spec_StackOk_3_sv × EOs T spec_StackOk_3_so) : (List SBox × Int) × (Int × Int) := ((y.1.1, y.1.2.1), (y.1.2.2.1, y.1.2.2.2.1))
def spec_StackOk_3_b (n : Nat) {R : Type} (K : Ex → Sm.St T → Option R) (c : List SBox × Int) (x : Int × Int) (J : (Int × Int) → Option R) : Option R :=
  spec_StackOk_L3 n (fun (y1 : Int) => K (.exit 0) (stOf (T := T) [1, 5] [] [.one (.int .i64), .one (.int .i64)] [] (c.2, y1, ()) ())) (fun (y0 : Bool) => K .ret (stOf (T := T) [4] [] [.one (.bool)] [] (y0, ()) ())) (fun z0 z1 => J (z0, z1)) c.1 c.2 x.1 x.2
def spec_StackOk_3_sp (n : Nat) : LSpec T := mkSpec T ⟨[], [0, 1, 5, 6], []⟩ spec_StackOk_3_sv spec_StackOk_3_so (List SBox × Int) (Int × Int) spec_StackOk_3_emb spec_StackOk_3_prj (spec_StackOk_3_b n)
noncomputable def spec_StackOk_3_c : Code := ((loopCodes spec_StackOk_code)[0]?).getD .skip
def spec_StackOk_ann : Ann := fun id => bif Nat.beq id 3000003 then some ⟨[], [1, 5], []⟩ else bif Nat.beq id 2000003 then some ⟨[], [4], []⟩ else none
def spec_StackOk_Ls (n : Nat) : Nat → Option (LSpec T) := fun id => bif Nat.beq id 3 then some (spec_StackOk_3_sp n) else none
theorem spec_StackOk_3_le (n : Nat) : LoopEq (T := T) (Phi n 15) (spec_StackOk_Ls n) spec_StackOk_ann n spec_StackOk_3_c (spec_StackOk_3_sp n) := ⟨mkSpec_dec (fun y => rfl), fun c x => by kernel_rfl, fun K J c x => by kernel_rfl⟩
theorem spec_StackOk_tie (n : Nat) (boxes0 : List SBox) (most1 : Int) : evF (T := T) (Phi n 15) (spec_StackOk_Ls n) spec_StackOk_ann n Try.f124 (sg 124) [vA T 49 boxes0, vA T 3 most1] spec_StackOk_dec = spec_StackOk n boxes0 most1 := by kernel_rfl
theorem spec_StackOk_lo (n : Nat) : LoopsOk (T := T) (Phi n 15) (spec_StackOk_Ls n) spec_StackOk_ann n spec_StackOk_code := loopsOk_all (cs := [spec_StackOk_3_c]) (by kernel_rfl) ⟨⟨_, by kernel_rfl, spec_StackOk_3_le n⟩, trivial⟩
theorem spec_StackOk_ok (n : Nat) : EntOk Try.prog (ents n) (spec_StackOk_ent n) := by
  intro hs ar y hg h
  replace h : spec_StackOk_D n ar = some y := h
  unfold spec_StackOk_D at h
  replace h := ocons_some h
  obtain ⟨a0, r0, rfl, h⟩ := h
  replace h := ocons_some h
  obtain ⟨a1, r1, rfl, h⟩ := h
  replace h := onil_some h
  obtain ⟨rfl, h⟩ := h
  obtain ⟨boxes0, qh0, h⟩ := obind_some h
  obtain ⟨most1, qh1, h⟩ := obind_some h
  rw [argV_eq ok qh0, argV_eq ok qh1]
  exact call_of (phiE_nat _ _) hs ok mixed Try.func124 (c := spec_StackOk_code) (by kernel_rfl) (spec_StackOk_lo n) (by kernel_rfl) (by kernel_rfl) (by kernel_rfl) spec_StackOk_de ((spec_StackOk_tie n boxes0 most1).trans h)
noncomputable def spec_l12Cold_code : Code := match Try.f126.body with | some c => c | none => .skip
def spec_l12Cold_3_sv : List Sv := [.one (.arr 67), .one (.int .i64), .one (.int .i64), .one (.int .i64)]
def spec_l12Cold_3_so : List So := []
def spec_l12Cold_3_emb (c : List SStow × Int) (x : Int × Int) : EVs T spec_l12Cold_3_sv × EOs T spec_l12Cold_3_so := ((c.1, c.2, x.1, x.2, ()), ())
def spec_l12Cold_3_prj (y : EVs T spec_l12Cold_3_sv × EOs T spec_l12Cold_3_so) : (List SStow × Int) × (Int × Int) := ((y.1.1, y.1.2.1), (y.1.2.2.1, y.1.2.2.2.1))
def spec_l12Cold_3_b (n : Nat) {R : Type} (K : Ex → Sm.St T → Option R) (c : List SStow × Int) (x : Int × Int) (J : (Int × Int) → Option R) : Option R :=
  spec_l12Cold_L3 n (fun (y0 : Int) => K (.exit 0) (stOf (T := T) [5] [] [.one (.int .i64)] [] (y0, ()) ())) (fun z0 z1 => J (z0, z1)) c.1 c.2 x.1 x.2
def spec_l12Cold_3_sp (n : Nat) : LSpec T := mkSpec T ⟨[], [0, 1, 5, 6], []⟩ spec_l12Cold_3_sv spec_l12Cold_3_so (List SStow × Int) (Int × Int) spec_l12Cold_3_emb spec_l12Cold_3_prj (spec_l12Cold_3_b n)
noncomputable def spec_l12Cold_3_c : Code := ((loopCodes spec_l12Cold_code)[0]?).getD .skip
def spec_l12Cold_ann : Ann := fun id => bif Nat.beq id 3000003 then some ⟨[], [5], []⟩ else none
def spec_l12Cold_Ls (n : Nat) : Nat → Option (LSpec T) := fun id => bif Nat.beq id 3 then some (spec_l12Cold_3_sp n) else none
theorem spec_l12Cold_3_le (n : Nat) : LoopEq (T := T) (Phi n 16) (spec_l12Cold_Ls n) spec_l12Cold_ann n spec_l12Cold_3_c (spec_l12Cold_3_sp n) := ⟨mkSpec_dec (fun y => rfl), fun c x => by kernel_rfl, fun K J c x => by kernel_rfl⟩
theorem spec_l12Cold_tie (n : Nat) (list0 : List SStow) (bay1 : Int) : evF (T := T) (Phi n 16) (spec_l12Cold_Ls n) spec_l12Cold_ann n Try.f126 (sg 126) [vA T 44 list0, vA T 3 bay1] spec_l12Cold_dec = spec_l12Cold n list0 bay1 := by kernel_rfl
theorem spec_l12Cold_lo (n : Nat) : LoopsOk (T := T) (Phi n 16) (spec_l12Cold_Ls n) spec_l12Cold_ann n spec_l12Cold_code := loopsOk_all (cs := [spec_l12Cold_3_c]) (by kernel_rfl) ⟨⟨_, by kernel_rfl, spec_l12Cold_3_le n⟩, trivial⟩
theorem spec_l12Cold_ok (n : Nat) : EntOk Try.prog (ents n) (spec_l12Cold_ent n) := by
  intro hs ar y hg h
  replace h : spec_l12Cold_D n ar = some y := h
  unfold spec_l12Cold_D at h
  replace h := ocons_some h
  obtain ⟨a0, r0, rfl, h⟩ := h
  replace h := ocons_some h
  obtain ⟨a1, r1, rfl, h⟩ := h
  replace h := onil_some h
  obtain ⟨rfl, h⟩ := h
  obtain ⟨list0, qh0, h⟩ := obind_some h
  obtain ⟨bay1, qh1, h⟩ := obind_some h
  rw [argV_eq ok qh0, argV_eq ok qh1]
  exact call_of (phiE_nat _ _) hs ok mixed Try.func126 (c := spec_l12Cold_code) (by kernel_rfl) (spec_l12Cold_lo n) (by kernel_rfl) (by kernel_rfl) (by kernel_rfl) spec_l12Cold_de ((spec_l12Cold_tie n list0 bay1).trans h)
noncomputable def spec_l11Spot_code : Code := match Try.f139.body with | some c => c | none => .skip
def spec_l11Spot_ann : Ann := fun id => none
def spec_l11Spot_Ls (n : Nat) : Nat → Option (LSpec T) := fun id => none
theorem spec_l11Spot_tie (n : Nat) (s0 : SSpot) : evF (T := T) (Phi n 17) (spec_l11Spot_Ls n) spec_l11Spot_ann n Try.f139 (sg 139) [vA T 65 s0] spec_l11Spot_dec = spec_l11Spot n s0 := by kernel_rfl
theorem spec_l11Spot_lo (n : Nat) : LoopsOk (T := T) (Phi n 17) (spec_l11Spot_Ls n) spec_l11Spot_ann n spec_l11Spot_code := loopsOk_all (cs := []) (by kernel_rfl) trivial
theorem spec_l11Spot_ok (n : Nat) : EntOk Try.prog (ents n) (spec_l11Spot_ent n) := by
  intro hs ar y hg h
  replace h : spec_l11Spot_D n ar = some y := h
  unfold spec_l11Spot_D at h
  replace h := ocons_some h
  obtain ⟨a0, r0, rfl, h⟩ := h
  replace h := onil_some h
  obtain ⟨rfl, h⟩ := h
  obtain ⟨s0, qh0, h⟩ := obind_some h
  rw [argV_eq ok qh0]
  exact call_of (phiE_nat _ _) hs ok mixed Try.func139 (c := spec_l11Spot_code) (by kernel_rfl) (spec_l11Spot_lo n) (by kernel_rfl) (by kernel_rfl) (by kernel_rfl) spec_l11Spot_de ((spec_l11Spot_tie n s0).trans h)
noncomputable def spec_l3Size_code : Code := match Try.f140.body with | some c => c | none => .skip
def spec_l3Size_ann : Ann := fun id => none
def spec_l3Size_Ls (n : Nat) : Nat → Option (LSpec T) := fun id => none
theorem spec_l3Size_tie (n : Nat) (x0 : Int) : evF (T := T) (Phi n 18) (spec_l3Size_Ls n) spec_l3Size_ann n Try.f140 (sg 140) [vA T 3 x0] spec_l3Size_dec = spec_l3Size n x0 := by kernel_rfl
theorem spec_l3Size_lo (n : Nat) : LoopsOk (T := T) (Phi n 18) (spec_l3Size_Ls n) spec_l3Size_ann n spec_l3Size_code := loopsOk_all (cs := []) (by kernel_rfl) trivial
theorem spec_l3Size_ok (n : Nat) : EntOk Try.prog (ents n) (spec_l3Size_ent n) := by
  intro hs ar y hg h
  replace h : spec_l3Size_D n ar = some y := h
  unfold spec_l3Size_D at h
  replace h := ocons_some h
  obtain ⟨a0, r0, rfl, h⟩ := h
  replace h := onil_some h
  obtain ⟨rfl, h⟩ := h
  obtain ⟨x0, qh0, h⟩ := obind_some h
  rw [argV_eq ok qh0]
  exact call_of (phiE_nat _ _) hs ok mixed Try.func140 (c := spec_l3Size_code) (by kernel_rfl) (spec_l3Size_lo n) (by kernel_rfl) (by kernel_rfl) (by kernel_rfl) spec_l3Size_de ((spec_l3Size_tie n x0).trans h)
noncomputable def spec_l1Least_code : Code := match Try.f147.body with | some c => c | none => .skip
def spec_l1Least_ann : Ann := fun id => none
def spec_l1Least_Ls (n : Nat) : Nat → Option (LSpec T) := fun id => none
theorem spec_l1Least_tie (n : Nat) (a0 : Int) (b1 : Int) : evF (T := T) (Phi n 19) (spec_l1Least_Ls n) spec_l1Least_ann n Try.f147 (sg 147) [vA T 3 a0, vA T 3 b1] spec_l1Least_dec = spec_l1Least n a0 b1 := by kernel_rfl
theorem spec_l1Least_lo (n : Nat) : LoopsOk (T := T) (Phi n 19) (spec_l1Least_Ls n) spec_l1Least_ann n spec_l1Least_code := loopsOk_all (cs := []) (by kernel_rfl) trivial
theorem spec_l1Least_ok (n : Nat) : EntOk Try.prog (ents n) (spec_l1Least_ent n) := by
  intro hs ar y hg h
  replace h : spec_l1Least_D n ar = some y := h
  unfold spec_l1Least_D at h
  replace h := ocons_some h
  obtain ⟨a0, r0, rfl, h⟩ := h
  replace h := ocons_some h
  obtain ⟨a1, r1, rfl, h⟩ := h
  replace h := onil_some h
  obtain ⟨rfl, h⟩ := h
  obtain ⟨a0, qh0, h⟩ := obind_some h
  obtain ⟨b1, qh1, h⟩ := obind_some h
  rw [argV_eq ok qh0, argV_eq ok qh1]
  exact call_of (phiE_nat _ _) hs ok mixed Try.func147 (c := spec_l1Least_code) (by kernel_rfl) (spec_l1Least_lo n) (by kernel_rfl) (by kernel_rfl) (by kernel_rfl) spec_l1Least_de ((spec_l1Least_tie n a0 b1).trans h)
noncomputable def spec_Apart_code : Code := match Try.f141.body with | some c => c | none => .skip
def spec_Apart_ann : Ann := fun id => none
def spec_Apart_Ls (n : Nat) : Nat → Option (LSpec T) := fun id => none
theorem spec_Apart_tie (n : Nat) (a0 : Int) (b1 : Int) : evF (T := T) (Phi n 20) (spec_Apart_Ls n) spec_Apart_ann n Try.f141 (sg 141) [vA T 3 a0, vA T 3 b1] spec_Apart_dec = spec_Apart n a0 b1 := by kernel_rfl
theorem spec_Apart_lo (n : Nat) : LoopsOk (T := T) (Phi n 20) (spec_Apart_Ls n) spec_Apart_ann n spec_Apart_code := loopsOk_all (cs := []) (by kernel_rfl) trivial
theorem spec_Apart_ok (n : Nat) : EntOk Try.prog (ents n) (spec_Apart_ent n) := by
  intro hs ar y hg h
  replace h : spec_Apart_D n ar = some y := h
  unfold spec_Apart_D at h
  replace h := ocons_some h
  obtain ⟨a0, r0, rfl, h⟩ := h
  replace h := ocons_some h
  obtain ⟨a1, r1, rfl, h⟩ := h
  replace h := onil_some h
  obtain ⟨rfl, h⟩ := h
  obtain ⟨a0, qh0, h⟩ := obind_some h
  obtain ⟨b1, qh1, h⟩ := obind_some h
  rw [argV_eq ok qh0, argV_eq ok qh1]
  exact call_of (phiE_nat _ _) hs ok mixed Try.func141 (c := spec_Apart_code) (by kernel_rfl) (spec_Apart_lo n) (by kernel_rfl) (by kernel_rfl) (by kernel_rfl) spec_Apart_de ((spec_Apart_tie n a0 b1).trans h)
noncomputable def spec_KeepsApart_code : Code := match Try.f127.body with | some c => c | none => .skip
def spec_KeepsApart_ann : Ann := fun id => none
def spec_KeepsApart_Ls (n : Nat) : Nat → Option (LSpec T) := fun id => none
theorem spec_KeepsApart_tie (n : Nat) (a0 : SBox) (sa1 : SSpot) (b2 : SBox) (sb3 : SSpot) : evF (T := T) (Phi n 21) (spec_KeepsApart_Ls n) spec_KeepsApart_ann n Try.f127 (sg 127) [vA T 63 a0, vA T 65 sa1, vA T 63 b2, vA T 65 sb3] spec_KeepsApart_dec = spec_KeepsApart n a0 sa1 b2 sb3 := by kernel_rfl
theorem spec_KeepsApart_lo (n : Nat) : LoopsOk (T := T) (Phi n 21) (spec_KeepsApart_Ls n) spec_KeepsApart_ann n spec_KeepsApart_code := loopsOk_all (cs := []) (by kernel_rfl) trivial
theorem spec_KeepsApart_ok (n : Nat) : EntOk Try.prog (ents n) (spec_KeepsApart_ent n) := by
  intro hs ar y hg h
  replace h : spec_KeepsApart_D n ar = some y := h
  unfold spec_KeepsApart_D at h
  replace h := ocons_some h
  obtain ⟨a0, r0, rfl, h⟩ := h
  replace h := ocons_some h
  obtain ⟨a1, r1, rfl, h⟩ := h
  replace h := ocons_some h
  obtain ⟨a2, r2, rfl, h⟩ := h
  replace h := ocons_some h
  obtain ⟨a3, r3, rfl, h⟩ := h
  replace h := onil_some h
  obtain ⟨rfl, h⟩ := h
  obtain ⟨a0, qh0, h⟩ := obind_some h
  obtain ⟨sa1, qh1, h⟩ := obind_some h
  obtain ⟨b2, qh2, h⟩ := obind_some h
  obtain ⟨sb3, qh3, h⟩ := obind_some h
  rw [argV_eq ok qh0, argV_eq ok qh1, argV_eq ok qh2, argV_eq ok qh3]
  exact call_of (phiE_nat _ _) hs ok mixed Try.func127 (c := spec_KeepsApart_code) (by kernel_rfl) (spec_KeepsApart_lo n) (by kernel_rfl) (by kernel_rfl) (by kernel_rfl) spec_KeepsApart_de ((spec_KeepsApart_tie n a0 sa1 b2 sb3).trans h)
noncomputable def spec_l12Fails_code : Code := match Try.f116.body with | some c => c | none => .skip
def spec_l12Fails_8_sv : List Sv := [.one (.arr 67), .one (.int .i64), .one (.ptr 72 0 0), .one (.ptr 80 0 0), .one (.int .i64)]
def spec_l12Fails_8_so : List So := [.var [.str, .int .i64, .int .i64, .bool, .int .i64, .int .i64, .int .i64, .int .i64, .int .i64], .var [.int .i64, .int .i64, .int .i64]]
def spec_l12Fails_8_emb (c : List SStow × Int × SStow × SSpot) (x : Int) : EVs T spec_l12Fails_8_sv × EOs T spec_l12Fails_8_so := ((c.1, c.2.1, (), (), x, ()), ((c.2.2.1.Box.Name, c.2.2.1.Box.Weight, c.2.2.1.Box.Class, c.2.2.1.Box.Cold, c.2.2.1.Box.From, c.2.2.1.Box.To, c.2.2.1.Spot.Bay, c.2.2.1.Spot.Row, c.2.2.1.Spot.Tier, ()), (c.2.2.2.Bay, c.2.2.2.Row, c.2.2.2.Tier, ()), ()))
def spec_l12Fails_8_prj (y : EVs T spec_l12Fails_8_sv × EOs T spec_l12Fails_8_so) : (List SStow × Int × SStow × SSpot) × Int := ((y.1.1, y.1.2.1, ((⟨(⟨y.2.1.1, y.2.1.2.1, y.2.1.2.2.1, y.2.1.2.2.2.1, y.2.1.2.2.2.2.1, y.2.1.2.2.2.2.2.1⟩ : SBox), (⟨y.2.1.2.2.2.2.2.2.1, y.2.1.2.2.2.2.2.2.2.1, y.2.1.2.2.2.2.2.2.2.2.1⟩ : SSpot)⟩ : SStow) : SStow), ((⟨y.2.2.1.1, y.2.2.1.2.1, y.2.2.1.2.2.1⟩ : SSpot) : SSpot)), (y.1.2.2.2.2.1))
def spec_l12Fails_8_b (n : Nat) {R : Type} (K : Ex → Sm.St T → Option R) (c : List SStow × Int × SStow × SSpot) (x : Int) (J : Int → Option R) : Option R :=
  spec_l12Fails_L8 n (K (.exit 1) (stOf (T := T) [] [] [] [] () ())) (fun (y0 : Bool) => K .ret (stOf (T := T) [8] [] [.one (.bool)] [] (y0, ()) ())) J c.1 c.2.1 x c.2.2.1 c.2.2.2
def spec_l12Fails_8_sp (n : Nat) : LSpec T := mkSpec T ⟨[], [1, 2, 9, 10, 11], [72, 80]⟩ spec_l12Fails_8_sv spec_l12Fails_8_so (List SStow × Int × SStow × SSpot) (Int) spec_l12Fails_8_emb spec_l12Fails_8_prj (spec_l12Fails_8_b n)
noncomputable def spec_l12Fails_8_c : Code := ((loopCodes spec_l12Fails_code)[0]?).getD .skip
def spec_l12Fails_22_sv : List Sv := [.one (.arr 67), .one (.int .i64), .one (.ptr 72 0 0), .one (.ptr 80 0 0), .one (.int .i64)]
def spec_l12Fails_22_so : List So := [.var [.str, .int .i64, .int .i64, .bool, .int .i64, .int .i64, .int .i64, .int .i64, .int .i64], .var [.int .i64, .int .i64, .int .i64]]
def spec_l12Fails_22_emb (c : List SStow × Int × SStow × SSpot) (x : Int) : EVs T spec_l12Fails_22_sv × EOs T spec_l12Fails_22_so := ((c.1, c.2.1, (), (), x, ()), ((c.2.2.1.Box.Name, c.2.2.1.Box.Weight, c.2.2.1.Box.Class, c.2.2.1.Box.Cold, c.2.2.1.Box.From, c.2.2.1.Box.To, c.2.2.1.Spot.Bay, c.2.2.1.Spot.Row, c.2.2.1.Spot.Tier, ()), (c.2.2.2.Bay, c.2.2.2.Row, c.2.2.2.Tier, ()), ()))
def spec_l12Fails_22_prj (y : EVs T spec_l12Fails_22_sv × EOs T spec_l12Fails_22_so) : (List SStow × Int × SStow × SSpot) × Int := ((y.1.1, y.1.2.1, ((⟨(⟨y.2.1.1, y.2.1.2.1, y.2.1.2.2.1, y.2.1.2.2.2.1, y.2.1.2.2.2.2.1, y.2.1.2.2.2.2.2.1⟩ : SBox), (⟨y.2.1.2.2.2.2.2.2.1, y.2.1.2.2.2.2.2.2.2.1, y.2.1.2.2.2.2.2.2.2.2.1⟩ : SSpot)⟩ : SStow) : SStow), ((⟨y.2.2.1.1, y.2.2.1.2.1, y.2.2.1.2.2.1⟩ : SSpot) : SSpot)), (y.1.2.2.2.2.1))
def spec_l12Fails_22_b (n : Nat) {R : Type} (K : Ex → Sm.St T → Option R) (c : List SStow × Int × SStow × SSpot) (x : Int) (J : Int → Option R) : Option R :=
  spec_l12Fails_L22 n (K (.exit 3) (stOf (T := T) [] [] [] [] () ())) (fun (y0 : Bool) => K .ret (stOf (T := T) [8] [] [.one (.bool)] [] (y0, ()) ())) J c.1 c.2.1 x c.2.2.1 c.2.2.2
def spec_l12Fails_22_sp (n : Nat) : LSpec T := mkSpec T ⟨[], [1, 2, 9, 10, 12], [72, 80]⟩ spec_l12Fails_22_sv spec_l12Fails_22_so (List SStow × Int × SStow × SSpot) (Int) spec_l12Fails_22_emb spec_l12Fails_22_prj (spec_l12Fails_22_b n)
noncomputable def spec_l12Fails_22_c : Code := ((loopCodes spec_l12Fails_code)[1]?).getD .skip
def spec_l12Fails_ann : Ann := fun id => bif Nat.beq id 4000008 then some ⟨[], [], []⟩ else bif Nat.beq id 2000008 then some ⟨[], [8], []⟩ else bif Nat.beq id 6000022 then some ⟨[], [], []⟩ else bif Nat.beq id 2000022 then some ⟨[], [8], []⟩ else none
def spec_l12Fails_Ls (n : Nat) : Nat → Option (LSpec T) := fun id => bif Nat.beq id 8 then some (spec_l12Fails_8_sp n) else bif Nat.beq id 22 then some (spec_l12Fails_22_sp n) else none
theorem spec_l12Fails_8_le (n : Nat) : LoopEq (T := T) (Phi n 22) (spec_l12Fails_Ls n) spec_l12Fails_ann n spec_l12Fails_8_c (spec_l12Fails_8_sp n) := ⟨mkSpec_dec (fun y => rfl), fun c x => by kernel_rfl, fun K J c x => by kernel_rfl⟩
theorem spec_l12Fails_22_le (n : Nat) : LoopEq (T := T) (Phi n 22) (spec_l12Fails_Ls n) spec_l12Fails_ann n spec_l12Fails_22_c (spec_l12Fails_22_sp n) := ⟨mkSpec_dec (fun y => rfl), fun c x => by kernel_rfl, fun K J c x => by kernel_rfl⟩
theorem spec_l12Fails_tie (n : Nat) (bays0 : List SHatch) (list1 : List SStow) (i2 : Int) (code3 : Int) : evF (T := T) (Phi n 22) (spec_l12Fails_Ls n) spec_l12Fails_ann n Try.f116 (sg 116) [vA T 47 bays0, vA T 44 list1, vA T 3 i2, vA T 3 code3] spec_l12Fails_dec = spec_l12Fails n bays0 list1 i2 code3 := by kernel_rfl
theorem spec_l12Fails_lo (n : Nat) : LoopsOk (T := T) (Phi n 22) (spec_l12Fails_Ls n) spec_l12Fails_ann n spec_l12Fails_code := loopsOk_all (cs := [spec_l12Fails_8_c, spec_l12Fails_22_c]) (by kernel_rfl) ⟨⟨_, by kernel_rfl, spec_l12Fails_8_le n⟩, ⟨_, by kernel_rfl, spec_l12Fails_22_le n⟩, trivial⟩
theorem spec_l12Fails_ok (n : Nat) : EntOk Try.prog (ents n) (spec_l12Fails_ent n) := by
  intro hs ar y hg h
  replace h : spec_l12Fails_D n ar = some y := h
  unfold spec_l12Fails_D at h
  replace h := ocons_some h
  obtain ⟨a0, r0, rfl, h⟩ := h
  replace h := ocons_some h
  obtain ⟨a1, r1, rfl, h⟩ := h
  replace h := ocons_some h
  obtain ⟨a2, r2, rfl, h⟩ := h
  replace h := ocons_some h
  obtain ⟨a3, r3, rfl, h⟩ := h
  replace h := onil_some h
  obtain ⟨rfl, h⟩ := h
  obtain ⟨bays0, qh0, h⟩ := obind_some h
  obtain ⟨list1, qh1, h⟩ := obind_some h
  obtain ⟨i2, qh2, h⟩ := obind_some h
  obtain ⟨code3, qh3, h⟩ := obind_some h
  rw [argV_eq ok qh0, argV_eq ok qh1, argV_eq ok qh2, argV_eq ok qh3]
  exact call_of (phiE_nat _ _) hs ok mixed Try.func116 (c := spec_l12Fails_code) (by kernel_rfl) (spec_l12Fails_lo n) (by kernel_rfl) (by kernel_rfl) (by kernel_rfl) spec_l12Fails_de ((spec_l12Fails_tie n bays0 list1 i2 code3).trans h)
noncomputable def spec_StowCode_code : Code := match Try.f95.body with | some c => c | none => .skip
def spec_StowCode_4_sv : List Sv := [.one (.arr 96), .one (.arr 67), .one (.int .i64)]
def spec_StowCode_4_so : List So := []
def spec_StowCode_4_emb (c : List SHatch × List SStow) (x : Int) : EVs T spec_StowCode_4_sv × EOs T spec_StowCode_4_so := ((c.1, c.2, x, ()), ())
def spec_StowCode_4_prj (y : EVs T spec_StowCode_4_sv × EOs T spec_StowCode_4_so) : (List SHatch × List SStow) × Int := ((y.1.1, y.1.2.1), (y.1.2.2.1))
def spec_StowCode_4_b (n : Nat) {R : Type} (K : Ex → Sm.St T → Option R) (c : List SHatch × List SStow) (x : Int) (J : Int → Option R) : Option R :=
  spec_StowCode_L4 n (K (.exit 0) (stOf (T := T) [] [] [] [] () ())) (fun (y0 : Int) (y1 : Int) => K .ret (stOf (T := T) [4, 5] [] [.one (.int .i64), .one (.int .i64)] [] (y0, y1, ()) ())) J c.1 c.2 x
def spec_StowCode_4_sp (n : Nat) : LSpec T := mkSpec T ⟨[], [0, 1, 6], []⟩ spec_StowCode_4_sv spec_StowCode_4_so (List SHatch × List SStow) (Int) spec_StowCode_4_emb spec_StowCode_4_prj (spec_StowCode_4_b n)
noncomputable def spec_StowCode_4_c : Code := ((loopCodes spec_StowCode_code)[0]?).getD .skip
def spec_StowCode_7_sv : List Sv := [.one (.arr 96), .one (.arr 67), .one (.int .i64), .one (.int .i64)]
def spec_StowCode_7_so : List So := []
def spec_StowCode_7_emb (c : List SHatch × List SStow × Int) (x : Int) : EVs T spec_StowCode_7_sv × EOs T spec_StowCode_7_so := ((c.1, c.2.1, c.2.2, x, ()), ())
def spec_StowCode_7_prj (y : EVs T spec_StowCode_7_sv × EOs T spec_StowCode_7_so) : (List SHatch × List SStow × Int) × Int := ((y.1.1, y.1.2.1, y.1.2.2.1), (y.1.2.2.2.1))
def spec_StowCode_7_b (n : Nat) {R : Type} (K : Ex → Sm.St T → Option R) (c : List SHatch × List SStow × Int) (x : Int) (J : Int → Option R) : Option R :=
  spec_StowCode_L7 n (K (.exit 2) (stOf (T := T) [0, 1, 6] [] [.one (.arr 96), .one (.arr 67), .one (.int .i64)] [] (c.1, c.2.1, c.2.2, ()) ())) (fun (y1 : Int) => K .ret (stOf (T := T) [4, 5] [] [.one (.int .i64), .one (.int .i64)] [] (c.2.2, y1, ()) ())) J c.1 c.2.1 c.2.2 x
def spec_StowCode_7_sp (n : Nat) : LSpec T := mkSpec T ⟨[], [0, 1, 6, 7], []⟩ spec_StowCode_7_sv spec_StowCode_7_so (List SHatch × List SStow × Int) (Int) spec_StowCode_7_emb spec_StowCode_7_prj (spec_StowCode_7_b n)
noncomputable def spec_StowCode_7_c : Code := ((loopCodes spec_StowCode_code)[1]?).getD .skip
def spec_StowCode_ann : Ann := fun id => bif Nat.beq id 3000004 then some ⟨[], [], []⟩ else bif Nat.beq id 2000004 then some ⟨[], [4, 5], []⟩ else bif Nat.beq id 5000007 then some ⟨[], [0, 1, 6], []⟩ else bif Nat.beq id 2000007 then some ⟨[], [4, 5], []⟩ else none
def spec_StowCode_Ls (n : Nat) : Nat → Option (LSpec T) := fun id => bif Nat.beq id 4 then some (spec_StowCode_4_sp n) else bif Nat.beq id 7 then some (spec_StowCode_7_sp n) else none
theorem spec_StowCode_4_le (n : Nat) : LoopEq (T := T) (Phi n 23) (spec_StowCode_Ls n) spec_StowCode_ann n spec_StowCode_4_c (spec_StowCode_4_sp n) := ⟨mkSpec_dec (fun y => rfl), fun c x => by kernel_rfl, fun K J c x => by kernel_rfl⟩
theorem spec_StowCode_7_le (n : Nat) : LoopEq (T := T) (Phi n 23) (spec_StowCode_Ls n) spec_StowCode_ann n spec_StowCode_7_c (spec_StowCode_7_sp n) := ⟨mkSpec_dec (fun y => rfl), fun c x => by kernel_rfl, fun K J c x => by kernel_rfl⟩
theorem spec_StowCode_tie (n : Nat) (bays0 : List SHatch) (list1 : List SStow) : evF (T := T) (Phi n 23) (spec_StowCode_Ls n) spec_StowCode_ann n Try.f95 (sg 95) [vA T 47 bays0, vA T 44 list1] spec_StowCode_dec = spec_StowCode n bays0 list1 := by kernel_rfl
theorem spec_StowCode_lo (n : Nat) : LoopsOk (T := T) (Phi n 23) (spec_StowCode_Ls n) spec_StowCode_ann n spec_StowCode_code := loopsOk_all (cs := [spec_StowCode_4_c, spec_StowCode_7_c]) (by kernel_rfl) ⟨⟨_, by kernel_rfl, spec_StowCode_4_le n⟩, ⟨_, by kernel_rfl, spec_StowCode_7_le n⟩, trivial⟩
theorem spec_StowCode_ok (n : Nat) : EntOk Try.prog (ents n) (spec_StowCode_ent n) := by
  intro hs ar y hg h
  replace h : spec_StowCode_D n ar = some y := h
  unfold spec_StowCode_D at h
  replace h := ocons_some h
  obtain ⟨a0, r0, rfl, h⟩ := h
  replace h := ocons_some h
  obtain ⟨a1, r1, rfl, h⟩ := h
  replace h := onil_some h
  obtain ⟨rfl, h⟩ := h
  obtain ⟨bays0, qh0, h⟩ := obind_some h
  obtain ⟨list1, qh1, h⟩ := obind_some h
  rw [argV_eq ok qh0, argV_eq ok qh1]
  exact call_of (phiE_nat _ _) hs ok mixed Try.func95 (c := spec_StowCode_code) (by kernel_rfl) (spec_StowCode_lo n) (by kernel_rfl) (by kernel_rfl) (by kernel_rfl) spec_StowCode_de ((spec_StowCode_tie n bays0 list1).trans h)
noncomputable def spec_l12Over_code : Code := match Try.f96.body with | some c => c | none => .skip
def spec_l12Over_3_sv : List Sv := [.one (.arr 67), .one (.int .i64), .one (.int .i64)]
def spec_l12Over_3_so : List So := []
def spec_l12Over_3_emb (c : List SStow) (x : Int × Int) : EVs T spec_l12Over_3_sv × EOs T spec_l12Over_3_so := ((c, x.1, x.2, ()), ())
def spec_l12Over_3_prj (y : EVs T spec_l12Over_3_sv × EOs T spec_l12Over_3_so) : List SStow × (Int × Int) := ((y.1.1), (y.1.2.1, y.1.2.2.1))
def spec_l12Over_3_b (n : Nat) {R : Type} (K : Ex → Sm.St T → Option R) (c : List SStow) (x : Int × Int) (J : (Int × Int) → Option R) : Option R :=
  spec_l12Over_L3 n (fun (y0 : Int) => K (.exit 0) (stOf (T := T) [3] [] [.one (.int .i64)] [] (y0, ()) ())) (fun z0 z1 => J (z0, z1)) c x.1 x.2
def spec_l12Over_3_sp (n : Nat) : LSpec T := mkSpec T ⟨[], [0, 3, 4], []⟩ spec_l12Over_3_sv spec_l12Over_3_so (List SStow) (Int × Int) spec_l12Over_3_emb spec_l12Over_3_prj (spec_l12Over_3_b n)
noncomputable def spec_l12Over_3_c : Code := ((loopCodes spec_l12Over_code)[0]?).getD .skip
def spec_l12Over_6_sv : List Sv := [.one (.arr 67), .one (.int .i64), .one (.int .i64), .one (.int .i64)]
def spec_l12Over_6_so : List So := []
def spec_l12Over_6_emb (c : List SStow × Int) (x : Int × Int) : EVs T spec_l12Over_6_sv × EOs T spec_l12Over_6_so := ((c.1, x.1, c.2, x.2, ()), ())
def spec_l12Over_6_prj (y : EVs T spec_l12Over_6_sv × EOs T spec_l12Over_6_so) : (List SStow × Int) × (Int × Int) := ((y.1.1, y.1.2.2.1), (y.1.2.1, y.1.2.2.2.1))
def spec_l12Over_6_b (n : Nat) {R : Type} (K : Ex → Sm.St T → Option R) (c : List SStow × Int) (x : Int × Int) (J : (Int × Int) → Option R) : Option R :=
  spec_l12Over_L6 n (fun (y1 : Int) => K (.exit 2) (stOf (T := T) [0, 3, 4] [] [.one (.arr 67), .one (.int .i64), .one (.int .i64)] [] (c.1, y1, c.2, ()) ())) (fun z0 z1 => J (z0, z1)) c.1 x.1 c.2 x.2
def spec_l12Over_6_sp (n : Nat) : LSpec T := mkSpec T ⟨[], [0, 3, 4, 5], []⟩ spec_l12Over_6_sv spec_l12Over_6_so (List SStow × Int) (Int × Int) spec_l12Over_6_emb spec_l12Over_6_prj (spec_l12Over_6_b n)
noncomputable def spec_l12Over_6_c : Code := ((loopCodes spec_l12Over_code)[1]?).getD .skip
def spec_l12Over_ann : Ann := fun id => bif Nat.beq id 3000003 then some ⟨[], [3], []⟩ else bif Nat.beq id 5000006 then some ⟨[], [0, 3, 4], []⟩ else none
def spec_l12Over_Ls (n : Nat) : Nat → Option (LSpec T) := fun id => bif Nat.beq id 3 then some (spec_l12Over_3_sp n) else bif Nat.beq id 6 then some (spec_l12Over_6_sp n) else none
theorem spec_l12Over_3_le (n : Nat) : LoopEq (T := T) (Phi n 24) (spec_l12Over_Ls n) spec_l12Over_ann n spec_l12Over_3_c (spec_l12Over_3_sp n) := ⟨mkSpec_dec (fun y => rfl), fun c x => by kernel_rfl, fun K J c x => by kernel_rfl⟩
theorem spec_l12Over_6_le (n : Nat) : LoopEq (T := T) (Phi n 24) (spec_l12Over_Ls n) spec_l12Over_ann n spec_l12Over_6_c (spec_l12Over_6_sp n) := ⟨mkSpec_dec (fun y => rfl), fun c x => by kernel_rfl, fun K J c x => by kernel_rfl⟩
theorem spec_l12Over_tie (n : Nat) (list0 : List SStow) : evF (T := T) (Phi n 24) (spec_l12Over_Ls n) spec_l12Over_ann n Try.f96 (sg 96) [vA T 44 list0] spec_l12Over_dec = spec_l12Over n list0 := by kernel_rfl
theorem spec_l12Over_lo (n : Nat) : LoopsOk (T := T) (Phi n 24) (spec_l12Over_Ls n) spec_l12Over_ann n spec_l12Over_code := loopsOk_all (cs := [spec_l12Over_3_c, spec_l12Over_6_c]) (by kernel_rfl) ⟨⟨_, by kernel_rfl, spec_l12Over_3_le n⟩, ⟨_, by kernel_rfl, spec_l12Over_6_le n⟩, trivial⟩
theorem spec_l12Over_ok (n : Nat) : EntOk Try.prog (ents n) (spec_l12Over_ent n) := by
  intro hs ar y hg h
  replace h : spec_l12Over_D n ar = some y := h
  unfold spec_l12Over_D at h
  replace h := ocons_some h
  obtain ⟨a0, r0, rfl, h⟩ := h
  replace h := onil_some h
  obtain ⟨rfl, h⟩ := h
  obtain ⟨list0, qh0, h⟩ := obind_some h
  rw [argV_eq ok qh0]
  exact call_of (phiE_nat _ _) hs ok mixed Try.func96 (c := spec_l12Over_code) (by kernel_rfl) (spec_l12Over_lo n) (by kernel_rfl) (by kernel_rfl) (by kernel_rfl) spec_l12Over_de ((spec_l12Over_tie n list0).trans h)
abbrev spec_l12Seek_Phi (n : Nat) (rc : List SHatch → List SBox → List SSpot → List SStow → List SStow → Bool → Option (List SStow × Bool)) {R : Type} (g : Nat) (ar : List (A T)) (K : Res T → Option R) : Option R := PhiR (T := T) (PhiE (ents n) 25) 46 [] (spec_l12Seek_Dr rc) spec_l12Seek_enc g ar K
noncomputable def spec_l12Seek_code : Code := match Try.f46.body with | some c => c | none => .skip
def spec_l12Seek_7_sv : List Sv := [.one (.arr 96), .one (.arr 63), .one (.arr 65), .one (.arr 67), .one (.own 3000000 67 false), .one (.bool), .one (.int .i64)]
def spec_l12Seek_7_so : List So := [.arr 67 false]
def spec_l12Seek_7_emb (c : List SHatch × List SBox × List SSpot × List SStow) (x : Bool × Int × List SStow) : EVs T spec_l12Seek_7_sv × EOs T spec_l12Seek_7_so := ((c.1, c.2.1, c.2.2.1, c.2.2.2, (), x.1, x.2.1, ()), (x.2.2, ()))
def spec_l12Seek_7_prj (y : EVs T spec_l12Seek_7_sv × EOs T spec_l12Seek_7_so) : (List SHatch × List SBox × List SSpot × List SStow) × (Bool × Int × List SStow) := ((y.1.1, y.1.2.1, y.1.2.2.1, y.1.2.2.2.1), (y.1.2.2.2.2.2.1, y.1.2.2.2.2.2.2.1, y.2.1))
def spec_l12Seek_7_b (n : Nat) (rc : List SHatch → List SBox → List SSpot → List SStow → List SStow → Bool → Option (List SStow × Bool)) {R : Type} (K : Ex → Sm.St T → Option R) (c : List SHatch × List SBox × List SSpot × List SStow) (x : Bool × Int × List SStow) (J : (Bool × Int × List SStow) → Option R) : Option R :=
  spec_l12Seek_L7 n rc (fun (y0 : Bool) (y1 : List SStow) => K (.exit 0) (stOf (T := T) [4, 5] [3000000] [.one (.own 3000000 67 false), .one (.bool)] [.arr 67 false] ((), y0, ()) (y1, ()))) (fun z0 z1 z2 => J (z0, z1, z2)) c.1 c.2.1 c.2.2.1 c.2.2.2 x.1 x.2.1 x.2.2
def spec_l12Seek_7_sp (n : Nat) (rc : List SHatch → List SBox → List SSpot → List SStow → List SStow → Bool → Option (List SStow × Bool)) : LSpec T := mkSpec T ⟨[((.reg 4), 3000000, 67)], [0, 1, 2, 3, 4, 5, 16], [3000000]⟩ spec_l12Seek_7_sv spec_l12Seek_7_so (List SHatch × List SBox × List SSpot × List SStow) (Bool × Int × List SStow) spec_l12Seek_7_emb spec_l12Seek_7_prj (spec_l12Seek_7_b n rc)
noncomputable def spec_l12Seek_7_c : Code := ((loopCodes spec_l12Seek_code)[0]?).getD .skip
def spec_l12Seek_ann : Ann := fun id => bif Nat.beq id 3000007 then some ⟨[((.reg 4), 3000000, 67)], [4, 5], [3000000]⟩ else none
def spec_l12Seek_Ls (n : Nat) (rc : List SHatch → List SBox → List SSpot → List SStow → List SStow → Bool → Option (List SStow × Bool)) : Nat → Option (LSpec T) := fun id => bif Nat.beq id 7 then some (spec_l12Seek_7_sp n rc) else none
theorem spec_l12Seek_7_le (n : Nat) (rc : List SHatch → List SBox → List SSpot → List SStow → List SStow → Bool → Option (List SStow × Bool)) : LoopEq (T := T) (spec_l12Seek_Phi n rc) (spec_l12Seek_Ls n rc) spec_l12Seek_ann n spec_l12Seek_7_c (spec_l12Seek_7_sp n rc) := ⟨mkSpec_dec (fun y => rfl), fun c x => by kernel_rfl, fun K J c x => by kernel_rfl⟩
theorem spec_l12Seek_tie (n : Nat) (rc : List SHatch → List SBox → List SSpot → List SStow → List SStow → Bool → Option (List SStow × Bool)) (bays0 : List SHatch) (boxes1 : List SBox) (spots2 : List SSpot) (so3 : List SStow) (best4 : List SStow) (has5 : Bool) : evF (T := T) (spec_l12Seek_Phi n rc) (spec_l12Seek_Ls n rc) spec_l12Seek_ann n Try.f46 (sg 46) [vA T 47 bays0, vA T 49 boxes1, vA T 94 spots2, vA T 44 so3, vA T 44 best4, vA T 4 has5] spec_l12Seek_dec = spec_l12Seek_b n rc bays0 boxes1 spots2 so3 best4 has5 := by kernel_rfl
theorem spec_l12Seek_lo (n : Nat) (rc : List SHatch → List SBox → List SSpot → List SStow → List SStow → Bool → Option (List SStow × Bool)) : LoopsOk (T := T) (spec_l12Seek_Phi n rc) (spec_l12Seek_Ls n rc) spec_l12Seek_ann n spec_l12Seek_code := loopsOk_all (cs := [spec_l12Seek_7_c]) (by kernel_rfl) ⟨⟨_, by kernel_rfl, spec_l12Seek_7_le n rc⟩, trivial⟩
theorem spec_l12Seek_okr (n : Nat) (hs : SemOk (PhiE (T := T) (ents n) 25) (CallOk Try.prog T)) : ∀ m ar y, natsEq (fnsOf ar) [] = true → spec_l12Seek_Dr (spec_l12Seek_r n m) ar = some y → CallOk Try.prog T 46 ar (spec_l12Seek_enc y) := by
  intro m
  induction m with
  | zero =>
    intro ar y hg h
    unfold spec_l12Seek_Dr at h
    replace h := ocons_some h
    obtain ⟨a0, r0, rfl, h⟩ := h
    replace h := ocons_some h
    obtain ⟨a1, r1, rfl, h⟩ := h
    replace h := ocons_some h
    obtain ⟨a2, r2, rfl, h⟩ := h
    replace h := ocons_some h
    obtain ⟨a3, r3, rfl, h⟩ := h
    replace h := ocons_some h
    obtain ⟨a4, r4, rfl, h⟩ := h
    replace h := ocons_some h
    obtain ⟨a5, r5, rfl, h⟩ := h
    replace h := onil_some h
    obtain ⟨rfl, h⟩ := h
    obtain ⟨bays0, qh0, h⟩ := obind_some h
    obtain ⟨boxes1, qh1, h⟩ := obind_some h
    obtain ⟨spots2, qh2, h⟩ := obind_some h
    obtain ⟨so3, qh3, h⟩ := obind_some h
    obtain ⟨best4, qh4, h⟩ := obind_some h
    obtain ⟨has5, qh5, h⟩ := obind_some h
    rw [argV_eq ok qh0, argV_eq ok qh1, argV_eq ok qh2, argV_eq ok qh3, argV_eq ok qh4, argV_eq ok qh5]
    exact nomatch (show (none : Option (List SStow × Bool)) = some y from h)
  | succ m ih =>
    intro ar y hg h
    unfold spec_l12Seek_Dr at h
    replace h := ocons_some h
    obtain ⟨a0, r0, rfl, h⟩ := h
    replace h := ocons_some h
    obtain ⟨a1, r1, rfl, h⟩ := h
    replace h := ocons_some h
    obtain ⟨a2, r2, rfl, h⟩ := h
    replace h := ocons_some h
    obtain ⟨a3, r3, rfl, h⟩ := h
    replace h := ocons_some h
    obtain ⟨a4, r4, rfl, h⟩ := h
    replace h := ocons_some h
    obtain ⟨a5, r5, rfl, h⟩ := h
    replace h := onil_some h
    obtain ⟨rfl, h⟩ := h
    obtain ⟨bays0, qh0, h⟩ := obind_some h
    obtain ⟨boxes1, qh1, h⟩ := obind_some h
    obtain ⟨spots2, qh2, h⟩ := obind_some h
    obtain ⟨so3, qh3, h⟩ := obind_some h
    obtain ⟨best4, qh4, h⟩ := obind_some h
    obtain ⟨has5, qh5, h⟩ := obind_some h
    rw [argV_eq ok qh0, argV_eq ok qh1, argV_eq ok qh2, argV_eq ok qh3, argV_eq ok qh4, argV_eq ok qh5]
    exact call_of (phiR_nat (phiE_nat _ _) _ _ _ _) (phiR_ok hs ih) ok mixed Try.func46 (c := spec_l12Seek_code) (by kernel_rfl) (spec_l12Seek_lo n (spec_l12Seek_r n m)) (by kernel_rfl) (by kernel_rfl) (by kernel_rfl) spec_l12Seek_de ((spec_l12Seek_tie n (spec_l12Seek_r n m) bays0 boxes1 spots2 so3 best4 has5).trans h)
theorem spec_l12Seek_ok (n : Nat) : EntOk Try.prog (ents n) (spec_l12Seek_ent n) := fun hs ar y hg h => spec_l12Seek_okr n hs n ar y hg h
noncomputable def spec_Fewest_code : Code := match Try.f13.body with | some c => c | none => .skip
def spec_Fewest_4_sv : List Sv := [.one (.arr 96), .one (.arr 63), .one (.int .i64)]
def spec_Fewest_4_so : List So := []
def spec_Fewest_4_emb (c : List SHatch × List SBox) (x : Int) : EVs T spec_Fewest_4_sv × EOs T spec_Fewest_4_so := ((c.1, c.2, x, ()), ())
def spec_Fewest_4_prj (y : EVs T spec_Fewest_4_sv × EOs T spec_Fewest_4_so) : (List SHatch × List SBox) × Int := ((y.1.1, y.1.2.1), (y.1.2.2.1))
def spec_Fewest_4_b (n : Nat) {R : Type} (K : Ex → Sm.St T → Option R) (c : List SHatch × List SBox) (x : Int) (J : Int → Option R) : Option R :=
  spec_Fewest_L4 n (K (.exit 0) (stOf (T := T) [0, 1] [] [.one (.arr 96), .one (.arr 63)] [] (c.1, c.2, ()) ())) (fun (y0 : Bool) (y1 : List SStow) => K .ret (stOf (T := T) [4, 5] [3000000] [.one (.own 3000000 67 false), .one (.bool)] [.arr 67 false] ((), y0, ()) (y1, ()))) J c.1 c.2 x
def spec_Fewest_4_sp (n : Nat) : LSpec T := mkSpec T ⟨[], [0, 1, 6], []⟩ spec_Fewest_4_sv spec_Fewest_4_so (List SHatch × List SBox) (Int) spec_Fewest_4_emb spec_Fewest_4_prj (spec_Fewest_4_b n)
noncomputable def spec_Fewest_4_c : Code := ((loopCodes spec_Fewest_code)[0]?).getD .skip
def spec_Fewest_7_sv : List Sv := [.one (.arr 96), .one (.arr 63), .one (.int .i64), .one (.int .i64)]
def spec_Fewest_7_so : List So := []
def spec_Fewest_7_emb (c : List SHatch × List SBox × Int) (x : Int) : EVs T spec_Fewest_7_sv × EOs T spec_Fewest_7_so := ((c.1, c.2.1, c.2.2, x, ()), ())
def spec_Fewest_7_prj (y : EVs T spec_Fewest_7_sv × EOs T spec_Fewest_7_so) : (List SHatch × List SBox × Int) × Int := ((y.1.1, y.1.2.1, y.1.2.2.1), (y.1.2.2.2.1))
def spec_Fewest_7_b (n : Nat) {R : Type} (K : Ex → Sm.St T → Option R) (c : List SHatch × List SBox × Int) (x : Int) (J : Int → Option R) : Option R :=
  spec_Fewest_L7 n (K (.exit 2) (stOf (T := T) [0, 1, 6] [] [.one (.arr 96), .one (.arr 63), .one (.int .i64)] [] (c.1, c.2.1, c.2.2, ()) ())) (fun (y0 : Bool) (y1 : List SStow) => K .ret (stOf (T := T) [4, 5] [3000000] [.one (.own 3000000 67 false), .one (.bool)] [.arr 67 false] ((), y0, ()) (y1, ()))) J c.1 c.2.1 c.2.2 x
def spec_Fewest_7_sp (n : Nat) : LSpec T := mkSpec T ⟨[], [0, 1, 6, 7], []⟩ spec_Fewest_7_sv spec_Fewest_7_so (List SHatch × List SBox × Int) (Int) spec_Fewest_7_emb spec_Fewest_7_prj (spec_Fewest_7_b n)
noncomputable def spec_Fewest_7_c : Code := ((loopCodes spec_Fewest_code)[1]?).getD .skip
def spec_Fewest_15_sv : List Sv := [.one (.arr 96), .one (.arr 63), .one (.own 3000001 65 false), .one (.int .i64)]
def spec_Fewest_15_so : List So := [.arr 65 false]
def spec_Fewest_15_emb (c : List SHatch × List SBox) (x : Int × List SSpot) : EVs T spec_Fewest_15_sv × EOs T spec_Fewest_15_so := ((c.1, c.2, (), x.1, ()), (x.2, ()))
def spec_Fewest_15_prj (y : EVs T spec_Fewest_15_sv × EOs T spec_Fewest_15_so) : (List SHatch × List SBox) × (Int × List SSpot) := ((y.1.1, y.1.2.1), (y.1.2.2.2.1, y.2.1))
def spec_Fewest_15_b (n : Nat) {R : Type} (K : Ex → Sm.St T → Option R) (c : List SHatch × List SBox) (x : Int × List SSpot) (J : (Int × List SSpot) → Option R) : Option R :=
  spec_Fewest_L15 n (fun (y2 : List SSpot) => K (.exit 4) (stOf (T := T) [0, 1, 8] [3000001] [.one (.arr 96), .one (.arr 63), .one (.own 3000001 65 false)] [.arr 65 false] (c.1, c.2, (), ()) (y2, ()))) (fun z0 z1 => J (z0, z1)) c.1 c.2 x.1 x.2
def spec_Fewest_15_sp (n : Nat) : LSpec T := mkSpec T ⟨[((.reg 8), 3000001, 65)], [0, 1, 8, 9], [3000001]⟩ spec_Fewest_15_sv spec_Fewest_15_so (List SHatch × List SBox) (Int × List SSpot) spec_Fewest_15_emb spec_Fewest_15_prj (spec_Fewest_15_b n)
noncomputable def spec_Fewest_15_c : Code := ((loopCodes spec_Fewest_code)[2]?).getD .skip
def spec_Fewest_18_sv : List Sv := [.one (.arr 96), .one (.arr 63), .one (.own 3000001 65 false), .one (.int .i64), .one (.int .i64)]
def spec_Fewest_18_so : List So := [.arr 65 false]
def spec_Fewest_18_emb (c : List SHatch × List SBox × Int) (x : Int × List SSpot) : EVs T spec_Fewest_18_sv × EOs T spec_Fewest_18_so := ((c.1, c.2.1, (), c.2.2, x.1, ()), (x.2, ()))
def spec_Fewest_18_prj (y : EVs T spec_Fewest_18_sv × EOs T spec_Fewest_18_so) : (List SHatch × List SBox × Int) × (Int × List SSpot) := ((y.1.1, y.1.2.1, y.1.2.2.2.1), (y.1.2.2.2.2.1, y.2.1))
def spec_Fewest_18_b (n : Nat) {R : Type} (K : Ex → Sm.St T → Option R) (c : List SHatch × List SBox × Int) (x : Int × List SSpot) (J : (Int × List SSpot) → Option R) : Option R :=
  spec_Fewest_L18 n (fun (y3 : List SSpot) => K (.exit 6) (stOf (T := T) [0, 1, 8, 9] [3000001] [.one (.arr 96), .one (.arr 63), .one (.own 3000001 65 false), .one (.int .i64)] [.arr 65 false] (c.1, c.2.1, (), c.2.2, ()) (y3, ()))) (fun z0 z1 => J (z0, z1)) c.1 c.2.1 c.2.2 x.1 x.2
def spec_Fewest_18_sp (n : Nat) : LSpec T := mkSpec T ⟨[((.reg 8), 3000001, 65)], [0, 1, 8, 9, 10], [3000001]⟩ spec_Fewest_18_sv spec_Fewest_18_so (List SHatch × List SBox × Int) (Int × List SSpot) spec_Fewest_18_emb spec_Fewest_18_prj (spec_Fewest_18_b n)
noncomputable def spec_Fewest_18_c : Code := ((loopCodes spec_Fewest_code)[3]?).getD .skip
def spec_Fewest_21_sv : List Sv := [.one (.arr 96), .one (.arr 63), .one (.own 3000001 65 false), .one (.int .i64), .one (.int .i64), .one (.int .i64)]
def spec_Fewest_21_so : List So := [.arr 65 false]
def spec_Fewest_21_emb (c : List SHatch × List SBox × Int × Int) (x : Int × List SSpot) : EVs T spec_Fewest_21_sv × EOs T spec_Fewest_21_so := ((c.1, c.2.1, (), c.2.2.1, c.2.2.2, x.1, ()), (x.2, ()))
def spec_Fewest_21_prj (y : EVs T spec_Fewest_21_sv × EOs T spec_Fewest_21_so) : (List SHatch × List SBox × Int × Int) × (Int × List SSpot) := ((y.1.1, y.1.2.1, y.1.2.2.2.1, y.1.2.2.2.2.1), (y.1.2.2.2.2.2.1, y.2.1))
def spec_Fewest_21_b (n : Nat) {R : Type} (K : Ex → Sm.St T → Option R) (c : List SHatch × List SBox × Int × Int) (x : Int × List SSpot) (J : (Int × List SSpot) → Option R) : Option R :=
  spec_Fewest_L21 n (fun (y4 : List SSpot) => K (.exit 8) (stOf (T := T) [0, 1, 8, 9, 10] [3000001] [.one (.arr 96), .one (.arr 63), .one (.own 3000001 65 false), .one (.int .i64), .one (.int .i64)] [.arr 65 false] (c.1, c.2.1, (), c.2.2.1, c.2.2.2, ()) (y4, ()))) (fun z0 z1 => J (z0, z1)) c.1 c.2.1 c.2.2.1 c.2.2.2 x.1 x.2
def spec_Fewest_21_sp (n : Nat) : LSpec T := mkSpec T ⟨[((.reg 8), 3000001, 65)], [0, 1, 8, 9, 10, 11], [3000001]⟩ spec_Fewest_21_sv spec_Fewest_21_so (List SHatch × List SBox × Int × Int) (Int × List SSpot) spec_Fewest_21_emb spec_Fewest_21_prj (spec_Fewest_21_b n)
noncomputable def spec_Fewest_21_c : Code := ((loopCodes spec_Fewest_code)[4]?).getD .skip
end Go.Sm.F4
