import Derived.Test.YtjilmfkglikoeaaB9Tb
import Derived.Test.YtjilmfkglikoeaaEngE
import Derived.Test.YtjilmfkglikoeaaLay
import Derived.KernelRfl
/- Each function's code computes what the plain function computes. -/
set_option linter.unusedSimpArgs false
set_option linter.deprecated false
set_option linter.unusedSectionVars false
set_option linter.unusedVariables false
set_option maxRecDepth 100000
open Go Go.Proofs
noncomputable section
namespace Go.Sm.B9
/-- By recursors, and of a greater height than all of the functions: the kernel takes these apart first. -/
def obind {α β : Type} (o : Option α) (f : α → Option β) : Option β := let _ := @laws_FnExactCatch; Option.rec (motive := fun _ => Option β) none (fun a => f a) o
theorem obind_some {α β : Type} {o : Option α} {f : α → Option β} {y : β} (h : obind o f = some y) : ∃ a, o = some a ∧ f a = some y := by
  cases o with
  | none => cases h
  | some a => exact ⟨a, rfl, h⟩
def ocons {β : Type} (l : List (A T)) (f : A T → List (A T) → Option β) : Option β := let _ := @laws_FnExactCatch; List.rec (motive := fun _ => Option β) none (fun a r _ => f a r) l
theorem ocons_some {β : Type} {l : List (A T)} {f : A T → List (A T) → Option β} {y : β} (h : ocons l f = some y) : ∃ a r, l = a :: r ∧ f a r = some y := by
  cases l with
  | nil => cases h
  | cons a r => exact ⟨a, r, rfl, h⟩
def onil {β : Type} (l : List (A T)) (x : Option β) : Option β := let _ := @laws_FnExactCatch; List.rec (motive := fun _ => Option β) x (fun _ _ _ => none) l
theorem onil_some {β : Type} {l : List (A T)} {x : Option β} {y : β} (h : onil l x = some y) : l = [] ∧ x = some y := by
  cases l with
  | nil => exact ⟨rfl, h⟩
  | cons a r => cases h
def laws_szIntS_dec (res : Res T) : Option Int := match res.rets, res.outs with
  | [a0], [] => (retV (T := T) 3 a0).bind fun r0 => some (r0)
  | _, _ => none
def laws_szIntS_enc (y : Int) : Res T := ⟨[vR T 3 y], []⟩
theorem laws_szIntS_de (res : Res T) (y : Int) (h : laws_szIntS_dec res = some y) : res = laws_szIntS_enc y := by
  obtain ⟨rets, outs⟩ := res
  unfold laws_szIntS_dec at h
  dsimp only at h
  split at h
  · obtain ⟨r0, h0, h⟩ := Option.bind_eq_some_iff.1 h
    cases h
    rw [retV_eq ok h0]
    rfl
  · cases h
def laws_szFeature_dec (res : Res T) : Option Int := match res.rets, res.outs with
  | [a0], [] => (retV (T := T) 3 a0).bind fun r0 => some (r0)
  | _, _ => none
def laws_szFeature_enc (y : Int) : Res T := ⟨[vR T 3 y], []⟩
theorem laws_szFeature_de (res : Res T) (y : Int) (h : laws_szFeature_dec res = some y) : res = laws_szFeature_enc y := by
  obtain ⟨rets, outs⟩ := res
  unfold laws_szFeature_dec at h
  dsimp only at h
  split at h
  · obtain ⟨r0, h0, h⟩ := Option.bind_eq_some_iff.1 h
    cases h
    rw [retV_eq ok h0]
    rfl
  · cases h
def laws_szFeatureS_dec (res : Res T) : Option Int := match res.rets, res.outs with
  | [a0], [] => (retV (T := T) 3 a0).bind fun r0 => some (r0)
  | _, _ => none
def laws_szFeatureS_enc (y : Int) : Res T := ⟨[vR T 3 y], []⟩
theorem laws_szFeatureS_de (res : Res T) (y : Int) (h : laws_szFeatureS_dec res = some y) : res = laws_szFeatureS_enc y := by
  obtain ⟨rets, outs⟩ := res
  unfold laws_szFeatureS_dec at h
  dsimp only at h
  split at h
  · obtain ⟨r0, h0, h⟩ := Option.bind_eq_some_iff.1 h
    cases h
    rw [retV_eq ok h0]
    rfl
  · cases h
def laws_szChart_dec (res : Res T) : Option Int := match res.rets, res.outs with
  | [a0], [] => (retV (T := T) 3 a0).bind fun r0 => some (r0)
  | _, _ => none
def laws_szChart_enc (y : Int) : Res T := ⟨[vR T 3 y], []⟩
theorem laws_szChart_de (res : Res T) (y : Int) (h : laws_szChart_dec res = some y) : res = laws_szChart_enc y := by
  obtain ⟨rets, outs⟩ := res
  unfold laws_szChart_dec at h
  dsimp only at h
  split at h
  · obtain ⟨r0, h0, h⟩ := Option.bind_eq_some_iff.1 h
    cases h
    rw [retV_eq ok h0]
    rfl
  · cases h
def laws_szNote_dec (res : Res T) : Option Int := match res.rets, res.outs with
  | [a0], [] => (retV (T := T) 3 a0).bind fun r0 => some (r0)
  | _, _ => none
def laws_szNote_enc (y : Int) : Res T := ⟨[vR T 3 y], []⟩
theorem laws_szNote_de (res : Res T) (y : Int) (h : laws_szNote_dec res = some y) : res = laws_szNote_enc y := by
  obtain ⟨rets, outs⟩ := res
  unfold laws_szNote_dec at h
  dsimp only at h
  split at h
  · obtain ⟨r0, h0, h⟩ := Option.bind_eq_some_iff.1 h
    cases h
    rw [retV_eq ok h0]
    rfl
  · cases h
def laws_szNoteS_dec (res : Res T) : Option Int := match res.rets, res.outs with
  | [a0], [] => (retV (T := T) 3 a0).bind fun r0 => some (r0)
  | _, _ => none
def laws_szNoteS_enc (y : Int) : Res T := ⟨[vR T 3 y], []⟩
theorem laws_szNoteS_de (res : Res T) (y : Int) (h : laws_szNoteS_dec res = some y) : res = laws_szNoteS_enc y := by
  obtain ⟨rets, outs⟩ := res
  unfold laws_szNoteS_dec at h
  dsimp only at h
  split at h
  · obtain ⟨r0, h0, h⟩ := Option.bind_eq_some_iff.1 h
    cases h
    rw [retV_eq ok h0]
    rfl
  · cases h
def laws_szUpdate_dec (res : Res T) : Option Int := match res.rets, res.outs with
  | [a0], [] => (retV (T := T) 3 a0).bind fun r0 => some (r0)
  | _, _ => none
def laws_szUpdate_enc (y : Int) : Res T := ⟨[vR T 3 y], []⟩
theorem laws_szUpdate_de (res : Res T) (y : Int) (h : laws_szUpdate_dec res = some y) : res = laws_szUpdate_enc y := by
  obtain ⟨rets, outs⟩ := res
  unfold laws_szUpdate_dec at h
  dsimp only at h
  split at h
  · obtain ⟨r0, h0, h⟩ := Option.bind_eq_some_iff.1 h
    cases h
    rw [retV_eq ok h0]
    rfl
  · cases h
def laws_szUpdateS_dec (res : Res T) : Option Int := match res.rets, res.outs with
  | [a0], [] => (retV (T := T) 3 a0).bind fun r0 => some (r0)
  | _, _ => none
def laws_szUpdateS_enc (y : Int) : Res T := ⟨[vR T 3 y], []⟩
theorem laws_szUpdateS_de (res : Res T) (y : Int) (h : laws_szUpdateS_dec res = some y) : res = laws_szUpdateS_enc y := by
  obtain ⟨rets, outs⟩ := res
  unfold laws_szUpdateS_dec at h
  dsimp only at h
  split at h
  · obtain ⟨r0, h0, h⟩ := Option.bind_eq_some_iff.1 h
    cases h
    rw [retV_eq ok h0]
    rfl
  · cases h
def laws_toIntS_dec (res : Res T) : Option (List Int) := match res.rets, res.outs with
  | [a0], [] => (retV (T := T) 55 a0).bind fun r0 => some (r0)
  | _, _ => none
def laws_toIntS_enc (y : List Int) : Res T := ⟨[vR T 55 y], []⟩
theorem laws_toIntS_de (res : Res T) (y : List Int) (h : laws_toIntS_dec res = some y) : res = laws_toIntS_enc y := by
  obtain ⟨rets, outs⟩ := res
  unfold laws_toIntS_dec at h
  dsimp only at h
  split at h
  · obtain ⟨r0, h0, h⟩ := Option.bind_eq_some_iff.1 h
    cases h
    rw [retV_eq ok h0]
    rfl
  · cases h
def laws_toFeature_dec (res : Res T) : Option SFeature := match res.rets, res.outs with
  | [a0], [] => (retV (T := T) 181 a0).bind fun r0 => some (r0)
  | _, _ => none
def laws_toFeature_enc (y : SFeature) : Res T := ⟨[vR T 181 y], []⟩
theorem laws_toFeature_de (res : Res T) (y : SFeature) (h : laws_toFeature_dec res = some y) : res = laws_toFeature_enc y := by
  obtain ⟨rets, outs⟩ := res
  unfold laws_toFeature_dec at h
  dsimp only at h
  split at h
  · obtain ⟨r0, h0, h⟩ := Option.bind_eq_some_iff.1 h
    cases h
    rw [retV_eq ok h0]
    rfl
  · cases h
def laws_toFeatureS_dec (res : Res T) : Option (List SFeature) := match res.rets, res.outs with
  | [a0], [] => (retV (T := T) 61 a0).bind fun r0 => some (r0)
  | _, _ => none
def laws_toFeatureS_enc (y : List SFeature) : Res T := ⟨[vR T 61 y], []⟩
theorem laws_toFeatureS_de (res : Res T) (y : List SFeature) (h : laws_toFeatureS_dec res = some y) : res = laws_toFeatureS_enc y := by
  obtain ⟨rets, outs⟩ := res
  unfold laws_toFeatureS_dec at h
  dsimp only at h
  split at h
  · obtain ⟨r0, h0, h⟩ := Option.bind_eq_some_iff.1 h
    cases h
    rw [retV_eq ok h0]
    rfl
  · cases h
def laws_toChart_dec (res : Res T) : Option SChart := match res.rets, res.outs with
  | [a0], [] => (retV (T := T) 63 a0).bind fun r0 => some (r0)
  | _, _ => none
def laws_toChart_enc (y : SChart) : Res T := ⟨[vR T 63 y], []⟩
theorem laws_toChart_de (res : Res T) (y : SChart) (h : laws_toChart_dec res = some y) : res = laws_toChart_enc y := by
  obtain ⟨rets, outs⟩ := res
  unfold laws_toChart_dec at h
  dsimp only at h
  split at h
  · obtain ⟨r0, h0, h⟩ := Option.bind_eq_some_iff.1 h
    cases h
    rw [retV_eq ok h0]
    rfl
  · cases h
def laws_toNote_dec (res : Res T) : Option SNote := match res.rets, res.outs with
  | [a0], [] => (retV (T := T) 196 a0).bind fun r0 => some (r0)
  | _, _ => none
def laws_toNote_enc (y : SNote) : Res T := ⟨[vR T 196 y], []⟩
theorem laws_toNote_de (res : Res T) (y : SNote) (h : laws_toNote_dec res = some y) : res = laws_toNote_enc y := by
  obtain ⟨rets, outs⟩ := res
  unfold laws_toNote_dec at h
  dsimp only at h
  split at h
  · obtain ⟨r0, h0, h⟩ := Option.bind_eq_some_iff.1 h
    cases h
    rw [retV_eq ok h0]
    rfl
  · cases h
def laws_toNoteS_dec (res : Res T) : Option (List SNote) := match res.rets, res.outs with
  | [a0], [] => (retV (T := T) 83 a0).bind fun r0 => some (r0)
  | _, _ => none
def laws_toNoteS_enc (y : List SNote) : Res T := ⟨[vR T 83 y], []⟩
theorem laws_toNoteS_de (res : Res T) (y : List SNote) (h : laws_toNoteS_dec res = some y) : res = laws_toNoteS_enc y := by
  obtain ⟨rets, outs⟩ := res
  unfold laws_toNoteS_dec at h
  dsimp only at h
  split at h
  · obtain ⟨r0, h0, h⟩ := Option.bind_eq_some_iff.1 h
    cases h
    rw [retV_eq ok h0]
    rfl
  · cases h
def laws_toUpdate_dec (res : Res T) : Option SUpdate := match res.rets, res.outs with
  | [a0], [] => (retV (T := T) 85 a0).bind fun r0 => some (r0)
  | _, _ => none
def laws_toUpdate_enc (y : SUpdate) : Res T := ⟨[vR T 85 y], []⟩
theorem laws_toUpdate_de (res : Res T) (y : SUpdate) (h : laws_toUpdate_dec res = some y) : res = laws_toUpdate_enc y := by
  obtain ⟨rets, outs⟩ := res
  unfold laws_toUpdate_dec at h
  dsimp only at h
  split at h
  · obtain ⟨r0, h0, h⟩ := Option.bind_eq_some_iff.1 h
    cases h
    rw [retV_eq ok h0]
    rfl
  · cases h
def laws_toUpdateS_dec (res : Res T) : Option (List SUpdate) := match res.rets, res.outs with
  | [a0], [] => (retV (T := T) 94 a0).bind fun r0 => some (r0)
  | _, _ => none
def laws_toUpdateS_enc (y : List SUpdate) : Res T := ⟨[vR T 94 y], []⟩
theorem laws_toUpdateS_de (res : Res T) (y : List SUpdate) (h : laws_toUpdateS_dec res = some y) : res = laws_toUpdateS_enc y := by
  obtain ⟨rets, outs⟩ := res
  unfold laws_toUpdateS_dec at h
  dsimp only at h
  split at h
  · obtain ⟨r0, h0, h⟩ := Option.bind_eq_some_iff.1 h
    cases h
    rw [retV_eq ok h0]
    rfl
  · cases h
def spec_l6Copy_dec (res : Res T) : Option SChart := match res.rets, res.outs with
  | [a0], [] => (retV (T := T) 63 a0).bind fun r0 => some (r0)
  | _, _ => none
def spec_l6Copy_enc (y : SChart) : Res T := ⟨[vR T 63 y], []⟩
theorem spec_l6Copy_de (res : Res T) (y : SChart) (h : spec_l6Copy_dec res = some y) : res = spec_l6Copy_enc y := by
  obtain ⟨rets, outs⟩ := res
  unfold spec_l6Copy_dec at h
  dsimp only at h
  split at h
  · obtain ⟨r0, h0, h⟩ := Option.bind_eq_some_iff.1 h
    cases h
    rw [retV_eq ok h0]
    rfl
  · cases h
def spec_l1In_dec (res : Res T) : Option Bool := match res.rets, res.outs with
  | [a0], [] => (retV (T := T) 4 a0).bind fun r0 => some (r0)
  | _, _ => none
def spec_l1In_enc (y : Bool) : Res T := ⟨[vR T 4 y], []⟩
theorem spec_l1In_de (res : Res T) (y : Bool) (h : spec_l1In_dec res = some y) : res = spec_l1In_enc y := by
  obtain ⟨rets, outs⟩ := res
  unfold spec_l1In_dec at h
  dsimp only at h
  split at h
  · obtain ⟨r0, h0, h⟩ := Option.bind_eq_some_iff.1 h
    cases h
    rw [retV_eq ok h0]
    rfl
  · cases h
def spec_l6Depth_dec (res : Res T) : Option Bool := match res.rets, res.outs with
  | [a0], [] => (retV (T := T) 4 a0).bind fun r0 => some (r0)
  | _, _ => none
def spec_l6Depth_enc (y : Bool) : Res T := ⟨[vR T 4 y], []⟩
theorem spec_l6Depth_de (res : Res T) (y : Bool) (h : spec_l6Depth_dec res = some y) : res = spec_l6Depth_enc y := by
  obtain ⟨rets, outs⟩ := res
  unfold spec_l6Depth_dec at h
  dsimp only at h
  split at h
  · obtain ⟨r0, h0, h⟩ := Option.bind_eq_some_iff.1 h
    cases h
    rw [retV_eq ok h0]
    rfl
  · cases h
def spec_l6Place_dec (res : Res T) : Option Bool := match res.rets, res.outs with
  | [a0], [] => (retV (T := T) 4 a0).bind fun r0 => some (r0)
  | _, _ => none
def spec_l6Place_enc (y : Bool) : Res T := ⟨[vR T 4 y], []⟩
theorem spec_l6Place_de (res : Res T) (y : Bool) (h : spec_l6Place_dec res = some y) : res = spec_l6Place_enc y := by
  obtain ⟨rets, outs⟩ := res
  unfold spec_l6Place_dec at h
  dsimp only at h
  split at h
  · obtain ⟨r0, h0, h⟩ := Option.bind_eq_some_iff.1 h
    cases h
    rw [retV_eq ok h0]
    rfl
  · cases h
def spec_l6Feature_dec (res : Res T) : Option Bool := match res.rets, res.outs with
  | [a0], [] => (retV (T := T) 4 a0).bind fun r0 => some (r0)
  | _, _ => none
def spec_l6Feature_enc (y : Bool) : Res T := ⟨[vR T 4 y], []⟩
theorem spec_l6Feature_de (res : Res T) (y : Bool) (h : spec_l6Feature_dec res = some y) : res = spec_l6Feature_enc y := by
  obtain ⟨rets, outs⟩ := res
  unfold spec_l6Feature_dec at h
  dsimp only at h
  split at h
  · obtain ⟨r0, h0, h⟩ := Option.bind_eq_some_iff.1 h
    cases h
    rw [retV_eq ok h0]
    rfl
  · cases h
def spec_ChartOk_dec (res : Res T) : Option Bool := match res.rets, res.outs with
  | [a0], [] => (retV (T := T) 4 a0).bind fun r0 => some (r0)
  | _, _ => none
def spec_ChartOk_enc (y : Bool) : Res T := ⟨[vR T 4 y], []⟩
theorem spec_ChartOk_de (res : Res T) (y : Bool) (h : spec_ChartOk_dec res = some y) : res = spec_ChartOk_enc y := by
  obtain ⟨rets, outs⟩ := res
  unfold spec_ChartOk_dec at h
  dsimp only at h
  split at h
  · obtain ⟨r0, h0, h⟩ := Option.bind_eq_some_iff.1 h
    cases h
    rw [retV_eq ok h0]
    rfl
  · cases h
def spec_l6Find_dec (res : Res T) : Option Int := match res.rets, res.outs with
  | [a0], [] => (retV (T := T) 3 a0).bind fun r0 => some (r0)
  | _, _ => none
def spec_l6Find_enc (y : Int) : Res T := ⟨[vR T 3 y], []⟩
theorem spec_l6Find_de (res : Res T) (y : Int) (h : spec_l6Find_dec res = some y) : res = spec_l6Find_enc y := by
  obtain ⟨rets, outs⟩ := res
  unfold spec_l6Find_dec at h
  dsimp only at h
  split at h
  · obtain ⟨r0, h0, h⟩ := Option.bind_eq_some_iff.1 h
    cases h
    rw [retV_eq ok h0]
    rfl
  · cases h
def spec_l6Note_dec (res : Res T) : Option (SChart × Bool) := match res.rets, res.outs with
  | [a0, a1], [] => (retV (T := T) 63 a0).bind fun r0 => (retV (T := T) 4 a1).bind fun r1 => some (r0, r1)
  | _, _ => none
def spec_l6Note_enc (y : SChart × Bool) : Res T := ⟨[vR T 63 y.1, vR T 4 y.2], []⟩
theorem spec_l6Note_de (res : Res T) (y : SChart × Bool) (h : spec_l6Note_dec res = some y) : res = spec_l6Note_enc y := by
  obtain ⟨rets, outs⟩ := res
  unfold spec_l6Note_dec at h
  dsimp only at h
  split at h
  · obtain ⟨r0, h0, h⟩ := Option.bind_eq_some_iff.1 h
    obtain ⟨r1, h1, h⟩ := Option.bind_eq_some_iff.1 h
    cases h
    rw [retV_eq ok h0, retV_eq ok h1]
    rfl
  · cases h
def spec_Apply6_dec (res : Res T) : Option (SChart × Int) := match res.rets, res.outs with
  | [a0, a1], [] => (retV (T := T) 63 a0).bind fun r0 => (retV (T := T) 3 a1).bind fun r1 => some (r0, r1)
  | _, _ => none
def spec_Apply6_enc (y : SChart × Int) : Res T := ⟨[vR T 63 y.1, vR T 3 y.2], []⟩
theorem spec_Apply6_de (res : Res T) (y : SChart × Int) (h : spec_Apply6_dec res = some y) : res = spec_Apply6_enc y := by
  obtain ⟨rets, outs⟩ := res
  unfold spec_Apply6_dec at h
  dsimp only at h
  split at h
  · obtain ⟨r0, h0, h⟩ := Option.bind_eq_some_iff.1 h
    obtain ⟨r1, h1, h⟩ := Option.bind_eq_some_iff.1 h
    cases h
    rw [retV_eq ok h0, retV_eq ok h1]
    rfl
  · cases h
def spec_Catch_dec (res : Res T) : Option (SChart × List Int) := match res.rets, res.outs with
  | [a0, a1], [] => (retV (T := T) 63 a0).bind fun r0 => (retV (T := T) 55 a1).bind fun r1 => some (r0, r1)
  | _, _ => none
def spec_Catch_enc (y : SChart × List Int) : Res T := ⟨[vR T 63 y.1, vR T 55 y.2], []⟩
theorem spec_Catch_de (res : Res T) (y : SChart × List Int) (h : spec_Catch_dec res = some y) : res = spec_Catch_enc y := by
  obtain ⟨rets, outs⟩ := res
  unfold spec_Catch_dec at h
  dsimp only at h
  split at h
  · obtain ⟨r0, h0, h⟩ := Option.bind_eq_some_iff.1 h
    obtain ⟨r1, h1, h⟩ := Option.bind_eq_some_iff.1 h
    cases h
    rw [retV_eq ok h0, retV_eq ok h1]
    rfl
  · cases h
def impl_own_int_dec (res : Res T) : Option (List Int) := match res.rets, res.outs with
  | [a0], [] => (retV (T := T) 55 a0).bind fun r0 => some (r0)
  | _, _ => none
def impl_own_int_enc (y : List Int) : Res T := ⟨[vR T 55 y], []⟩
theorem impl_own_int_de (res : Res T) (y : List Int) (h : impl_own_int_dec res = some y) : res = impl_own_int_enc y := by
  obtain ⟨rets, outs⟩ := res
  unfold impl_own_int_dec at h
  dsimp only at h
  split at h
  · obtain ⟨r0, h0, h⟩ := Option.bind_eq_some_iff.1 h
    cases h
    rw [retV_eq ok h0]
    rfl
  · cases h
def impl_own_impl_Feature_dec (res : Res T) : Option (List SFeature) := match res.rets, res.outs with
  | [a0], [] => (retV (T := T) 61 a0).bind fun r0 => some (r0)
  | _, _ => none
def impl_own_impl_Feature_enc (y : List SFeature) : Res T := ⟨[vR T 61 y], []⟩
theorem impl_own_impl_Feature_de (res : Res T) (y : List SFeature) (h : impl_own_impl_Feature_dec res = some y) : res = impl_own_impl_Feature_enc y := by
  obtain ⟨rets, outs⟩ := res
  unfold impl_own_impl_Feature_dec at h
  dsimp only at h
  split at h
  · obtain ⟨r0, h0, h⟩ := Option.bind_eq_some_iff.1 h
    cases h
    rw [retV_eq ok h0]
    rfl
  · cases h
def impl_Chart_own_dec (res : Res T) : Option SChart := match res.rets, res.outs with
  | [a0], [] => (retV (T := T) 63 a0).bind fun r0 => some (r0)
  | _, _ => none
def impl_Chart_own_enc (y : SChart) : Res T := ⟨[vR T 63 y], []⟩
theorem impl_Chart_own_de (res : Res T) (y : SChart) (h : impl_Chart_own_dec res = some y) : res = impl_Chart_own_enc y := by
  obtain ⟨rets, outs⟩ := res
  unfold impl_Chart_own_dec at h
  dsimp only at h
  split at h
  · obtain ⟨r0, h0, h⟩ := Option.bind_eq_some_iff.1 h
    cases h
    rw [retV_eq ok h0]
    rfl
  · cases h
def impl_in_dec (res : Res T) : Option Bool := match res.rets, res.outs with
  | [a0], [] => (retV (T := T) 4 a0).bind fun r0 => some (r0)
  | _, _ => none
def impl_in_enc (y : Bool) : Res T := ⟨[vR T 4 y], []⟩
theorem impl_in_de (res : Res T) (y : Bool) (h : impl_in_dec res = some y) : res = impl_in_enc y := by
  obtain ⟨rets, outs⟩ := res
  unfold impl_in_dec at h
  dsimp only at h
  split at h
  · obtain ⟨r0, h0, h⟩ := Option.bind_eq_some_iff.1 h
    cases h
    rw [retV_eq ok h0]
    rfl
  · cases h
def impl_all_1_dec (res : Res T) : Option Bool := match res.rets, res.outs with
  | [a0], [] => (retV (T := T) 4 a0).bind fun r0 => some (r0)
  | _, _ => none
def impl_all_1_enc (y : Bool) : Res T := ⟨[vR T 4 y], []⟩
theorem impl_all_1_de (res : Res T) (y : Bool) (h : impl_all_1_dec res = some y) : res = impl_all_1_enc y := by
  obtain ⟨rets, outs⟩ := res
  unfold impl_all_1_dec at h
  dsimp only at h
  split at h
  · obtain ⟨r0, h0, h⟩ := Option.bind_eq_some_iff.1 h
    cases h
    rw [retV_eq ok h0]
    rfl
  · cases h
def slices_IndexFunc_int_int__impl_all_1_dec (res : Res T) : Option Int := match res.rets, res.outs with
  | [a0], [] => (retV (T := T) 3 a0).bind fun r0 => some (r0)
  | _, _ => none
def slices_IndexFunc_int_int__impl_all_1_enc (y : Int) : Res T := ⟨[vR T 3 y], []⟩
theorem slices_IndexFunc_int_int__impl_all_1_de (res : Res T) (y : Int) (h : slices_IndexFunc_int_int__impl_all_1_dec res = some y) : res = slices_IndexFunc_int_int__impl_all_1_enc y := by
  obtain ⟨rets, outs⟩ := res
  unfold slices_IndexFunc_int_int__impl_all_1_dec at h
  dsimp only at h
  split at h
  · obtain ⟨r0, h0, h⟩ := Option.bind_eq_some_iff.1 h
    cases h
    rw [retV_eq ok h0]
    rfl
  · cases h
def slices_ContainsFunc_int_int__impl_all_1_dec (res : Res T) : Option Bool := match res.rets, res.outs with
  | [a0], [] => (retV (T := T) 4 a0).bind fun r0 => some (r0)
  | _, _ => none
def slices_ContainsFunc_int_int__impl_all_1_enc (y : Bool) : Res T := ⟨[vR T 4 y], []⟩
theorem slices_ContainsFunc_int_int__impl_all_1_de (res : Res T) (y : Bool) (h : slices_ContainsFunc_int_int__impl_all_1_dec res = some y) : res = slices_ContainsFunc_int_int__impl_all_1_enc y := by
  obtain ⟨rets, outs⟩ := res
  unfold slices_ContainsFunc_int_int__impl_all_1_dec at h
  dsimp only at h
  split at h
  · obtain ⟨r0, h0, h⟩ := Option.bind_eq_some_iff.1 h
    cases h
    rw [retV_eq ok h0]
    rfl
  · cases h
def impl_all_dec (res : Res T) : Option Bool := match res.rets, res.outs with
  | [a0], [] => (retV (T := T) 4 a0).bind fun r0 => some (r0)
  | _, _ => none
def impl_all_enc (y : Bool) : Res T := ⟨[vR T 4 y], []⟩
theorem impl_all_de (res : Res T) (y : Bool) (h : impl_all_dec res = some y) : res = impl_all_enc y := by
  obtain ⟨rets, outs⟩ := res
  unfold impl_all_dec at h
  dsimp only at h
  split at h
  · obtain ⟨r0, h0, h⟩ := Option.bind_eq_some_iff.1 h
    cases h
    rw [retV_eq ok h0]
    rfl
  · cases h
def impl_Chart_place_dec (res : Res T) : Option Bool := match res.rets, res.outs with
  | [a0], [] => (retV (T := T) 4 a0).bind fun r0 => some (r0)
  | _, _ => none
def impl_Chart_place_enc (y : Bool) : Res T := ⟨[vR T 4 y], []⟩
theorem impl_Chart_place_de (res : Res T) (y : Bool) (h : impl_Chart_place_dec res = some y) : res = impl_Chart_place_enc y := by
  obtain ⟨rets, outs⟩ := res
  unfold impl_Chart_place_dec at h
  dsimp only at h
  split at h
  · obtain ⟨r0, h0, h⟩ := Option.bind_eq_some_iff.1 h
    cases h
    rw [retV_eq ok h0]
    rfl
  · cases h
def impl_Chart_featureOk_dec (res : Res T) : Option Bool := match res.rets, res.outs with
  | [a0], [] => (retV (T := T) 4 a0).bind fun r0 => some (r0)
  | _, _ => none
def impl_Chart_featureOk_enc (y : Bool) : Res T := ⟨[vR T 4 y], []⟩
theorem impl_Chart_featureOk_de (res : Res T) (y : Bool) (h : impl_Chart_featureOk_dec res = some y) : res = impl_Chart_featureOk_enc y := by
  obtain ⟨rets, outs⟩ := res
  unfold impl_Chart_featureOk_dec at h
  dsimp only at h
  split at h
  · obtain ⟨r0, h0, h⟩ := Option.bind_eq_some_iff.1 h
    cases h
    rw [retV_eq ok h0]
    rfl
  · cases h
def impl_ChartOk_dec (res : Res T) : Option Bool := match res.rets, res.outs with
  | [a0], [] => (retV (T := T) 4 a0).bind fun r0 => some (r0)
  | _, _ => none
def impl_ChartOk_enc (y : Bool) : Res T := ⟨[vR T 4 y], []⟩
theorem impl_ChartOk_de (res : Res T) (y : Bool) (h : impl_ChartOk_dec res = some y) : res = impl_ChartOk_enc y := by
  obtain ⟨rets, outs⟩ := res
  unfold impl_ChartOk_dec at h
  dsimp only at h
  split at h
  · obtain ⟨r0, h0, h⟩ := Option.bind_eq_some_iff.1 h
    cases h
    rw [retV_eq ok h0]
    rfl
  · cases h
def impl_Chart_note_1_dec (res : Res T) : Option Bool := match res.rets, res.outs with
  | [a0], [] => (retV (T := T) 4 a0).bind fun r0 => some (r0)
  | _, _ => none
def impl_Chart_note_1_enc (y : Bool) : Res T := ⟨[vR T 4 y], []⟩
theorem impl_Chart_note_1_de (res : Res T) (y : Bool) (h : impl_Chart_note_1_dec res = some y) : res = impl_Chart_note_1_enc y := by
  obtain ⟨rets, outs⟩ := res
  unfold impl_Chart_note_1_dec at h
  dsimp only at h
  split at h
  · obtain ⟨r0, h0, h⟩ := Option.bind_eq_some_iff.1 h
    cases h
    rw [retV_eq ok h0]
    rfl
  · cases h
def slices_IndexFunc_impl_Feature_impl_Feature__impl_Chart_note_1_dec (res : Res T) : Option Int := match res.rets, res.outs with
  | [a0], [] => (retV (T := T) 3 a0).bind fun r0 => some (r0)
  | _, _ => none
def slices_IndexFunc_impl_Feature_impl_Feature__impl_Chart_note_1_enc (y : Int) : Res T := ⟨[vR T 3 y], []⟩
theorem slices_IndexFunc_impl_Feature_impl_Feature__impl_Chart_note_1_de (res : Res T) (y : Int) (h : slices_IndexFunc_impl_Feature_impl_Feature__impl_Chart_note_1_dec res = some y) : res = slices_IndexFunc_impl_Feature_impl_Feature__impl_Chart_note_1_enc y := by
  obtain ⟨rets, outs⟩ := res
  unfold slices_IndexFunc_impl_Feature_impl_Feature__impl_Chart_note_1_dec at h
  dsimp only at h
  split at h
  · obtain ⟨r0, h0, h⟩ := Option.bind_eq_some_iff.1 h
    cases h
    rw [retV_eq ok h0]
    rfl
  · cases h
def impl_Chart_note_2_dec (res : Res T) : Option Int := match res.rets, res.outs with
  | [a0], [] => (retV (T := T) 3 a0).bind fun r0 => some (r0)
  | _, _ => none
def impl_Chart_note_2_enc (y : Int) : Res T := ⟨[vR T 3 y], []⟩
theorem impl_Chart_note_2_de (res : Res T) (y : Int) (h : impl_Chart_note_2_dec res = some y) : res = impl_Chart_note_2_enc y := by
  obtain ⟨rets, outs⟩ := res
  unfold impl_Chart_note_2_dec at h
  dsimp only at h
  split at h
  · obtain ⟨r0, h0, h⟩ := Option.bind_eq_some_iff.1 h
    cases h
    rw [retV_eq ok h0]
    rfl
  · cases h
def slices_SortFunc_impl_Feature_impl_Feature__impl_Chart_note_2_dec (res : Res T) : Option (List SFeature) := match res.rets, res.outs with
  | [], [b0] => (outS (T := T) 181 b0).bind fun r0 => some (r0)
  | _, _ => none
def slices_SortFunc_impl_Feature_impl_Feature__impl_Chart_note_2_enc (y : List SFeature) : Res T := ⟨[], [.sl 181 y]⟩
theorem slices_SortFunc_impl_Feature_impl_Feature__impl_Chart_note_2_de (res : Res T) (y : List SFeature) (h : slices_SortFunc_impl_Feature_impl_Feature__impl_Chart_note_2_dec res = some y) : res = slices_SortFunc_impl_Feature_impl_Feature__impl_Chart_note_2_enc y := by
  obtain ⟨rets, outs⟩ := res
  unfold slices_SortFunc_impl_Feature_impl_Feature__impl_Chart_note_2_dec at h
  dsimp only at h
  split at h
  · obtain ⟨r0, h0, h⟩ := Option.bind_eq_some_iff.1 h
    cases h
    rw [outS_eq h0]
    rfl
  · cases h
def slices_Delete_impl_Feature_impl_Feature_dec (res : Res T) : Option (List SFeature) := match res.rets, res.outs with
  | [a0], [] => (retV (T := T) 61 a0).bind fun r0 => some (r0)
  | _, _ => none
def slices_Delete_impl_Feature_impl_Feature_enc (y : List SFeature) : Res T := ⟨[vR T 61 y], []⟩
theorem slices_Delete_impl_Feature_impl_Feature_de (res : Res T) (y : List SFeature) (h : slices_Delete_impl_Feature_impl_Feature_dec res = some y) : res = slices_Delete_impl_Feature_impl_Feature_enc y := by
  obtain ⟨rets, outs⟩ := res
  unfold slices_Delete_impl_Feature_impl_Feature_dec at h
  dsimp only at h
  split at h
  · obtain ⟨r0, h0, h⟩ := Option.bind_eq_some_iff.1 h
    cases h
    rw [retV_eq ok h0]
    rfl
  · cases h
def impl_depthOk_dec (res : Res T) : Option Bool := match res.rets, res.outs with
  | [a0], [] => (retV (T := T) 4 a0).bind fun r0 => some (r0)
  | _, _ => none
def impl_depthOk_enc (y : Bool) : Res T := ⟨[vR T 4 y], []⟩
theorem impl_depthOk_de (res : Res T) (y : Bool) (h : impl_depthOk_dec res = some y) : res = impl_depthOk_enc y := by
  obtain ⟨rets, outs⟩ := res
  unfold impl_depthOk_dec at h
  dsimp only at h
  split at h
  · obtain ⟨r0, h0, h⟩ := Option.bind_eq_some_iff.1 h
    cases h
    rw [retV_eq ok h0]
    rfl
  · cases h
def impl_Chart_note_dec (res : Res T) : Option (Bool × SChart) := match res.rets, res.outs with
  | [a0], [b0] => (retV (T := T) 4 a0).bind fun r0 => (outV (T := T) 63 b0).bind fun r1 => some (r0, r1)
  | _, _ => none
def impl_Chart_note_enc (y : Bool × SChart) : Res T := ⟨[vR T 4 y.1], [.var 63 y.2]⟩
theorem impl_Chart_note_de (res : Res T) (y : Bool × SChart) (h : impl_Chart_note_dec res = some y) : res = impl_Chart_note_enc y := by
  obtain ⟨rets, outs⟩ := res
  unfold impl_Chart_note_dec at h
  dsimp only at h
  split at h
  · obtain ⟨r0, h0, h⟩ := Option.bind_eq_some_iff.1 h
    obtain ⟨r1, h1, h⟩ := Option.bind_eq_some_iff.1 h
    cases h
    rw [retV_eq ok h0, outV_eq h1]
    rfl
  · cases h
def impl_Apply6_dec (res : Res T) : Option (SChart × Int) := match res.rets, res.outs with
  | [a0, a1], [] => (retV (T := T) 63 a0).bind fun r0 => (retV (T := T) 3 a1).bind fun r1 => some (r0, r1)
  | _, _ => none
def impl_Apply6_enc (y : SChart × Int) : Res T := ⟨[vR T 63 y.1, vR T 3 y.2], []⟩
theorem impl_Apply6_de (res : Res T) (y : SChart × Int) (h : impl_Apply6_dec res = some y) : res = impl_Apply6_enc y := by
  obtain ⟨rets, outs⟩ := res
  unfold impl_Apply6_dec at h
  dsimp only at h
  split at h
  · obtain ⟨r0, h0, h⟩ := Option.bind_eq_some_iff.1 h
    obtain ⟨r1, h1, h⟩ := Option.bind_eq_some_iff.1 h
    cases h
    rw [retV_eq ok h0, retV_eq ok h1]
    rfl
  · cases h
def impl_Catch_dec (res : Res T) : Option (SChart × List Int) := match res.rets, res.outs with
  | [a0, a1], [] => (retV (T := T) 63 a0).bind fun r0 => (retV (T := T) 55 a1).bind fun r1 => some (r0, r1)
  | _, _ => none
def impl_Catch_enc (y : SChart × List Int) : Res T := ⟨[vR T 63 y.1, vR T 55 y.2], []⟩
theorem impl_Catch_de (res : Res T) (y : SChart × List Int) (h : impl_Catch_dec res = some y) : res = impl_Catch_enc y := by
  obtain ⟨rets, outs⟩ := res
  unfold impl_Catch_dec at h
  dsimp only at h
  split at h
  · obtain ⟨r0, h0, h⟩ := Option.bind_eq_some_iff.1 h
    obtain ⟨r1, h1, h⟩ := Option.bind_eq_some_iff.1 h
    cases h
    rw [retV_eq ok h0, retV_eq ok h1]
    rfl
  · cases h
def laws_eqIntS_dec (res : Res T) : Option Bool := match res.rets, res.outs with
  | [a0], [] => (retV (T := T) 4 a0).bind fun r0 => some (r0)
  | _, _ => none
def laws_eqIntS_enc (y : Bool) : Res T := ⟨[vR T 4 y], []⟩
theorem laws_eqIntS_de (res : Res T) (y : Bool) (h : laws_eqIntS_dec res = some y) : res = laws_eqIntS_enc y := by
  obtain ⟨rets, outs⟩ := res
  unfold laws_eqIntS_dec at h
  dsimp only at h
  split at h
  · obtain ⟨r0, h0, h⟩ := Option.bind_eq_some_iff.1 h
    cases h
    rw [retV_eq ok h0]
    rfl
  · cases h
def laws_eqFeature_dec (res : Res T) : Option Bool := match res.rets, res.outs with
  | [a0], [] => (retV (T := T) 4 a0).bind fun r0 => some (r0)
  | _, _ => none
def laws_eqFeature_enc (y : Bool) : Res T := ⟨[vR T 4 y], []⟩
theorem laws_eqFeature_de (res : Res T) (y : Bool) (h : laws_eqFeature_dec res = some y) : res = laws_eqFeature_enc y := by
  obtain ⟨rets, outs⟩ := res
  unfold laws_eqFeature_dec at h
  dsimp only at h
  split at h
  · obtain ⟨r0, h0, h⟩ := Option.bind_eq_some_iff.1 h
    cases h
    rw [retV_eq ok h0]
    rfl
  · cases h
def laws_eqFeatureS_dec (res : Res T) : Option Bool := match res.rets, res.outs with
  | [a0], [] => (retV (T := T) 4 a0).bind fun r0 => some (r0)
  | _, _ => none
def laws_eqFeatureS_enc (y : Bool) : Res T := ⟨[vR T 4 y], []⟩
theorem laws_eqFeatureS_de (res : Res T) (y : Bool) (h : laws_eqFeatureS_dec res = some y) : res = laws_eqFeatureS_enc y := by
  obtain ⟨rets, outs⟩ := res
  unfold laws_eqFeatureS_dec at h
  dsimp only at h
  split at h
  · obtain ⟨r0, h0, h⟩ := Option.bind_eq_some_iff.1 h
    cases h
    rw [retV_eq ok h0]
    rfl
  · cases h
def laws_eqChart_dec (res : Res T) : Option Bool := match res.rets, res.outs with
  | [a0], [] => (retV (T := T) 4 a0).bind fun r0 => some (r0)
  | _, _ => none
def laws_eqChart_enc (y : Bool) : Res T := ⟨[vR T 4 y], []⟩
theorem laws_eqChart_de (res : Res T) (y : Bool) (h : laws_eqChart_dec res = some y) : res = laws_eqChart_enc y := by
  obtain ⟨rets, outs⟩ := res
  unfold laws_eqChart_dec at h
  dsimp only at h
  split at h
  · obtain ⟨r0, h0, h⟩ := Option.bind_eq_some_iff.1 h
    cases h
    rw [retV_eq ok h0]
    rfl
  · cases h
def laws_eqNote_dec (res : Res T) : Option Bool := match res.rets, res.outs with
  | [a0], [] => (retV (T := T) 4 a0).bind fun r0 => some (r0)
  | _, _ => none
def laws_eqNote_enc (y : Bool) : Res T := ⟨[vR T 4 y], []⟩
theorem laws_eqNote_de (res : Res T) (y : Bool) (h : laws_eqNote_dec res = some y) : res = laws_eqNote_enc y := by
  obtain ⟨rets, outs⟩ := res
  unfold laws_eqNote_dec at h
  dsimp only at h
  split at h
  · obtain ⟨r0, h0, h⟩ := Option.bind_eq_some_iff.1 h
    cases h
    rw [retV_eq ok h0]
    rfl
  · cases h
def laws_eqNoteS_dec (res : Res T) : Option Bool := match res.rets, res.outs with
  | [a0], [] => (retV (T := T) 4 a0).bind fun r0 => some (r0)
  | _, _ => none
def laws_eqNoteS_enc (y : Bool) : Res T := ⟨[vR T 4 y], []⟩
theorem laws_eqNoteS_de (res : Res T) (y : Bool) (h : laws_eqNoteS_dec res = some y) : res = laws_eqNoteS_enc y := by
  obtain ⟨rets, outs⟩ := res
  unfold laws_eqNoteS_dec at h
  dsimp only at h
  split at h
  · obtain ⟨r0, h0, h⟩ := Option.bind_eq_some_iff.1 h
    cases h
    rw [retV_eq ok h0]
    rfl
  · cases h
def laws_eqUpdate_dec (res : Res T) : Option Bool := match res.rets, res.outs with
  | [a0], [] => (retV (T := T) 4 a0).bind fun r0 => some (r0)
  | _, _ => none
def laws_eqUpdate_enc (y : Bool) : Res T := ⟨[vR T 4 y], []⟩
theorem laws_eqUpdate_de (res : Res T) (y : Bool) (h : laws_eqUpdate_dec res = some y) : res = laws_eqUpdate_enc y := by
  obtain ⟨rets, outs⟩ := res
  unfold laws_eqUpdate_dec at h
  dsimp only at h
  split at h
  · obtain ⟨r0, h0, h⟩ := Option.bind_eq_some_iff.1 h
    cases h
    rw [retV_eq ok h0]
    rfl
  · cases h
def laws_eqUpdateS_dec (res : Res T) : Option Bool := match res.rets, res.outs with
  | [a0], [] => (retV (T := T) 4 a0).bind fun r0 => some (r0)
  | _, _ => none
def laws_eqUpdateS_enc (y : Bool) : Res T := ⟨[vR T 4 y], []⟩
theorem laws_eqUpdateS_de (res : Res T) (y : Bool) (h : laws_eqUpdateS_dec res = some y) : res = laws_eqUpdateS_enc y := by
  obtain ⟨rets, outs⟩ := res
  unfold laws_eqUpdateS_dec at h
  dsimp only at h
  split at h
  · obtain ⟨r0, h0, h⟩ := Option.bind_eq_some_iff.1 h
    cases h
    rw [retV_eq ok h0]
    rfl
  · cases h
def laws_markIntS_dec (res : Res T) : Option (Int × List Int) := match res.rets, res.outs with
  | [a0], [b0] => (retV (T := T) 3 a0).bind fun r0 => (outS (T := T) 3 b0).bind fun r1 => some (r0, r1)
  | _, _ => none
def laws_markIntS_enc (y : Int × List Int) : Res T := ⟨[vR T 3 y.1], [.sl 3 y.2]⟩
theorem laws_markIntS_de (res : Res T) (y : Int × List Int) (h : laws_markIntS_dec res = some y) : res = laws_markIntS_enc y := by
  obtain ⟨rets, outs⟩ := res
  unfold laws_markIntS_dec at h
  dsimp only at h
  split at h
  · obtain ⟨r0, h0, h⟩ := Option.bind_eq_some_iff.1 h
    obtain ⟨r1, h1, h⟩ := Option.bind_eq_some_iff.1 h
    cases h
    rw [retV_eq ok h0, outS_eq h1]
    rfl
  · cases h
def laws_markText_dec (res : Res T) : Option ByteArray := match res.rets, res.outs with
  | [a0], [] => (retV (T := T) 9 a0).bind fun r0 => some (r0)
  | _, _ => none
def laws_markText_enc (y : ByteArray) : Res T := ⟨[vR T 9 y], []⟩
theorem laws_markText_de (res : Res T) (y : ByteArray) (h : laws_markText_dec res = some y) : res = laws_markText_enc y := by
  obtain ⟨rets, outs⟩ := res
  unfold laws_markText_dec at h
  dsimp only at h
  split at h
  · obtain ⟨r0, h0, h⟩ := Option.bind_eq_some_iff.1 h
    cases h
    rw [retV_eq ok h0]
    rfl
  · cases h
def laws_markFeatureS_dec (res : Res T) : Option (Int × List SFeature) := match res.rets, res.outs with
  | [a0], [b0] => (retV (T := T) 3 a0).bind fun r0 => (outS (T := T) 181 b0).bind fun r1 => some (r0, r1)
  | _, _ => none
def laws_markFeatureS_enc (y : Int × List SFeature) : Res T := ⟨[vR T 3 y.1], [.sl 181 y.2]⟩
theorem laws_markFeatureS_de (res : Res T) (y : Int × List SFeature) (h : laws_markFeatureS_dec res = some y) : res = laws_markFeatureS_enc y := by
  obtain ⟨rets, outs⟩ := res
  unfold laws_markFeatureS_dec at h
  dsimp only at h
  split at h
  · obtain ⟨r0, h0, h⟩ := Option.bind_eq_some_iff.1 h
    obtain ⟨r1, h1, h⟩ := Option.bind_eq_some_iff.1 h
    cases h
    rw [retV_eq ok h0, outS_eq h1]
    rfl
  · cases h
def laws_markChart_dec (res : Res T) : Option (Int × List Int × List SFeature) := match res.rets, res.outs with
  | [a0], [b0, b1] => (retV (T := T) 3 a0).bind fun r0 => (outS (T := T) 3 b0).bind fun r1 => (outS (T := T) 181 b1).bind fun r2 => some (r0, r1, r2)
  | _, _ => none
def laws_markChart_enc (y : Int × List Int × List SFeature) : Res T := ⟨[vR T 3 y.1], [.sl 3 y.2.1, .sl 181 y.2.2]⟩
theorem laws_markChart_de (res : Res T) (y : Int × List Int × List SFeature) (h : laws_markChart_dec res = some y) : res = laws_markChart_enc y := by
  obtain ⟨rets, outs⟩ := res
  unfold laws_markChart_dec at h
  dsimp only at h
  split at h
  · obtain ⟨r0, h0, h⟩ := Option.bind_eq_some_iff.1 h
    obtain ⟨r1, h1, h⟩ := Option.bind_eq_some_iff.1 h
    obtain ⟨r2, h2, h⟩ := Option.bind_eq_some_iff.1 h
    cases h
    rw [retV_eq ok h0, outS_eq h1, outS_eq h2]
    rfl
  · cases h
def laws_markNoteS_dec (res : Res T) : Option (Int × List SNote) := match res.rets, res.outs with
  | [a0], [b0] => (retV (T := T) 3 a0).bind fun r0 => (outS (T := T) 196 b0).bind fun r1 => some (r0, r1)
  | _, _ => none
def laws_markNoteS_enc (y : Int × List SNote) : Res T := ⟨[vR T 3 y.1], [.sl 196 y.2]⟩
theorem laws_markNoteS_de (res : Res T) (y : Int × List SNote) (h : laws_markNoteS_dec res = some y) : res = laws_markNoteS_enc y := by
  obtain ⟨rets, outs⟩ := res
  unfold laws_markNoteS_dec at h
  dsimp only at h
  split at h
  · obtain ⟨r0, h0, h⟩ := Option.bind_eq_some_iff.1 h
    obtain ⟨r1, h1, h⟩ := Option.bind_eq_some_iff.1 h
    cases h
    rw [retV_eq ok h0, outS_eq h1]
    rfl
  · cases h
def laws_markUpdateS_dec (res : Res T) : Option (Int × List SUpdate) := match res.rets, res.outs with
  | [a0], [b0] => (retV (T := T) 3 a0).bind fun r0 => (outS (T := T) 85 b0).bind fun r1 => some (r0, r1)
  | _, _ => none
def laws_markUpdateS_enc (y : Int × List SUpdate) : Res T := ⟨[vR T 3 y.1], [.sl 85 y.2]⟩
theorem laws_markUpdateS_de (res : Res T) (y : Int × List SUpdate) (h : laws_markUpdateS_dec res = some y) : res = laws_markUpdateS_enc y := by
  obtain ⟨rets, outs⟩ := res
  unfold laws_markUpdateS_dec at h
  dsimp only at h
  split at h
  · obtain ⟨r0, h0, h⟩ := Option.bind_eq_some_iff.1 h
    obtain ⟨r1, h1, h⟩ := Option.bind_eq_some_iff.1 h
    cases h
    rw [retV_eq ok h0, outS_eq h1]
    rfl
  · cases h
def laws_heldIntS_dec (res : Res T) : Option Int := match res.rets, res.outs with
  | [a0], [] => (retV (T := T) 3 a0).bind fun r0 => some (r0)
  | _, _ => none
def laws_heldIntS_enc (y : Int) : Res T := ⟨[vR T 3 y], []⟩
theorem laws_heldIntS_de (res : Res T) (y : Int) (h : laws_heldIntS_dec res = some y) : res = laws_heldIntS_enc y := by
  obtain ⟨rets, outs⟩ := res
  unfold laws_heldIntS_dec at h
  dsimp only at h
  split at h
  · obtain ⟨r0, h0, h⟩ := Option.bind_eq_some_iff.1 h
    cases h
    rw [retV_eq ok h0]
    rfl
  · cases h
def laws_heldFeatureS_dec (res : Res T) : Option Int := match res.rets, res.outs with
  | [a0], [] => (retV (T := T) 3 a0).bind fun r0 => some (r0)
  | _, _ => none
def laws_heldFeatureS_enc (y : Int) : Res T := ⟨[vR T 3 y], []⟩
theorem laws_heldFeatureS_de (res : Res T) (y : Int) (h : laws_heldFeatureS_dec res = some y) : res = laws_heldFeatureS_enc y := by
  obtain ⟨rets, outs⟩ := res
  unfold laws_heldFeatureS_dec at h
  dsimp only at h
  split at h
  · obtain ⟨r0, h0, h⟩ := Option.bind_eq_some_iff.1 h
    cases h
    rw [retV_eq ok h0]
    rfl
  · cases h
def laws_heldChart_dec (res : Res T) : Option Int := match res.rets, res.outs with
  | [a0], [] => (retV (T := T) 3 a0).bind fun r0 => some (r0)
  | _, _ => none
def laws_heldChart_enc (y : Int) : Res T := ⟨[vR T 3 y], []⟩
theorem laws_heldChart_de (res : Res T) (y : Int) (h : laws_heldChart_dec res = some y) : res = laws_heldChart_enc y := by
  obtain ⟨rets, outs⟩ := res
  unfold laws_heldChart_dec at h
  dsimp only at h
  split at h
  · obtain ⟨r0, h0, h⟩ := Option.bind_eq_some_iff.1 h
    cases h
    rw [retV_eq ok h0]
    rfl
  · cases h
def laws_FnExactCatch_dec (res : Res T) : Option Bool := match res.rets, res.outs with
  | [a0], [] => (retV (T := T) 4 a0).bind fun r0 => some (r0)
  | _, _ => none
def laws_FnExactCatch_enc (y : Bool) : Res T := ⟨[vR T 4 y], []⟩
theorem laws_FnExactCatch_de (res : Res T) (y : Bool) (h : laws_FnExactCatch_dec res = some y) : res = laws_FnExactCatch_enc y := by
  obtain ⟨rets, outs⟩ := res
  unfold laws_FnExactCatch_dec at h
  dsimp only at h
  split at h
  · obtain ⟨r0, h0, h⟩ := Option.bind_eq_some_iff.1 h
    cases h
    rw [retV_eq ok h0]
    rfl
  · cases h
def laws_szIntS_D (n : Nat) (r0 : List (A T)) : Option Int := ocons r0 fun a0 r1 => ocons r1 fun a1 r2 => onil r2 (obind (argV (T := T) 55 a0) fun a0 => obind (argV (T := T) 3 a1) fun left1 => laws_szIntS n a0 left1)
def laws_szIntS_ent (n : Nat) : Ent T := ⟨110, 0, [], Int, laws_szIntS_D n, laws_szIntS_enc⟩
def laws_szFeature_D (n : Nat) (r0 : List (A T)) : Option Int := ocons r0 fun a0 r1 => ocons r1 fun a1 r2 => onil r2 (obind (argV (T := T) 251 a0) fun a0 => obind (argV (T := T) 3 a1) fun left1 => laws_szFeature n a0 left1)
def laws_szFeature_ent (n : Nat) : Ent T := ⟨191, 1, [], Int, laws_szFeature_D n, laws_szFeature_enc⟩
def laws_szFeatureS_D (n : Nat) (r0 : List (A T)) : Option Int := ocons r0 fun a0 r1 => ocons r1 fun a1 r2 => onil r2 (obind (argV (T := T) 56 a0) fun a0 => obind (argV (T := T) 3 a1) fun left1 => laws_szFeatureS n a0 left1)
def laws_szFeatureS_ent (n : Nat) : Ent T := ⟨111, 2, [], Int, laws_szFeatureS_D n, laws_szFeatureS_enc⟩
def laws_szChart_D (n : Nat) (r0 : List (A T)) : Option Int := ocons r0 fun a0 r1 => ocons r1 fun a1 r2 => onil r2 (obind (argV (T := T) 58 a0) fun a0 => obind (argV (T := T) 3 a1) fun left1 => laws_szChart n a0 left1)
def laws_szChart_ent (n : Nat) : Ent T := ⟨33, 3, [], Int, laws_szChart_D n, laws_szChart_enc⟩
def laws_szNote_D (n : Nat) (r0 : List (A T)) : Option Int := ocons r0 fun a0 r1 => ocons r1 fun a1 r2 => onil r2 (obind (argV (T := T) 260 a0) fun a0 => obind (argV (T := T) 3 a1) fun left1 => laws_szNote n a0 left1)
def laws_szNote_ent (n : Nat) : Ent T := ⟨200, 4, [], Int, laws_szNote_D n, laws_szNote_enc⟩
def laws_szNoteS_D (n : Nat) (r0 : List (A T)) : Option Int := ocons r0 fun a0 r1 => ocons r1 fun a1 r2 => onil r2 (obind (argV (T := T) 78 a0) fun a0 => obind (argV (T := T) 3 a1) fun left1 => laws_szNoteS n a0 left1)
def laws_szNoteS_ent (n : Nat) : Ent T := ⟨129, 5, [], Int, laws_szNoteS_D n, laws_szNoteS_enc⟩
def laws_szUpdate_D (n : Nat) (r0 : List (A T)) : Option Int := ocons r0 fun a0 r1 => ocons r1 fun a1 r2 => onil r2 (obind (argV (T := T) 80 a0) fun a0 => obind (argV (T := T) 3 a1) fun left1 => laws_szUpdate n a0 left1)
def laws_szUpdate_ent (n : Nat) : Ent T := ⟨49, 6, [], Int, laws_szUpdate_D n, laws_szUpdate_enc⟩
def laws_szUpdateS_D (n : Nat) (r0 : List (A T)) : Option Int := ocons r0 fun a0 r1 => ocons r1 fun a1 r2 => onil r2 (obind (argV (T := T) 90 a0) fun a0 => obind (argV (T := T) 3 a1) fun left1 => laws_szUpdateS n a0 left1)
def laws_szUpdateS_ent (n : Nat) : Ent T := ⟨56, 7, [], Int, laws_szUpdateS_D n, laws_szUpdateS_enc⟩
def laws_toIntS_D (n : Nat) (r0 : List (A T)) : Option (List Int) := ocons r0 fun a0 r1 => onil r1 (obind (argV (T := T) 55 a0) fun a0 => laws_toIntS n a0)
def laws_toIntS_ent (n : Nat) : Ent T := ⟨112, 8, [], List Int, laws_toIntS_D n, laws_toIntS_enc⟩
def laws_toFeature_D (n : Nat) (r0 : List (A T)) : Option SFeature := ocons r0 fun a0 r1 => onil r1 (obind (argV (T := T) 251 a0) fun a0 => laws_toFeature n a0)
def laws_toFeature_ent (n : Nat) : Ent T := ⟨192, 9, [], SFeature, laws_toFeature_D n, laws_toFeature_enc⟩
def laws_toFeatureS_D (n : Nat) (r0 : List (A T)) : Option (List SFeature) := ocons r0 fun a0 r1 => onil r1 (obind (argV (T := T) 56 a0) fun a0 => laws_toFeatureS n a0)
def laws_toFeatureS_ent (n : Nat) : Ent T := ⟨113, 10, [], List SFeature, laws_toFeatureS_D n, laws_toFeatureS_enc⟩
def laws_toChart_D (n : Nat) (r0 : List (A T)) : Option SChart := ocons r0 fun a0 r1 => onil r1 (obind (argV (T := T) 58 a0) fun a0 => laws_toChart n a0)
def laws_toChart_ent (n : Nat) : Ent T := ⟨35, 11, [], SChart, laws_toChart_D n, laws_toChart_enc⟩
def laws_toNote_D (n : Nat) (r0 : List (A T)) : Option SNote := ocons r0 fun a0 r1 => onil r1 (obind (argV (T := T) 260 a0) fun a0 => laws_toNote n a0)
def laws_toNote_ent (n : Nat) : Ent T := ⟨202, 12, [], SNote, laws_toNote_D n, laws_toNote_enc⟩
def laws_toNoteS_D (n : Nat) (r0 : List (A T)) : Option (List SNote) := ocons r0 fun a0 r1 => onil r1 (obind (argV (T := T) 78 a0) fun a0 => laws_toNoteS n a0)
def laws_toNoteS_ent (n : Nat) : Ent T := ⟨132, 13, [], List SNote, laws_toNoteS_D n, laws_toNoteS_enc⟩
def laws_toUpdate_D (n : Nat) (r0 : List (A T)) : Option SUpdate := ocons r0 fun a0 r1 => onil r1 (obind (argV (T := T) 80 a0) fun a0 => laws_toUpdate n a0)
def laws_toUpdate_ent (n : Nat) : Ent T := ⟨51, 14, [], SUpdate, laws_toUpdate_D n, laws_toUpdate_enc⟩
def laws_toUpdateS_D (n : Nat) (r0 : List (A T)) : Option (List SUpdate) := ocons r0 fun a0 r1 => onil r1 (obind (argV (T := T) 90 a0) fun a0 => laws_toUpdateS n a0)
def laws_toUpdateS_ent (n : Nat) : Ent T := ⟨58, 15, [], List SUpdate, laws_toUpdateS_D n, laws_toUpdateS_enc⟩
def spec_l6Copy_D (n : Nat) (r0 : List (A T)) : Option SChart := ocons r0 fun a0 r1 => onil r1 (obind (argV (T := T) 63 a0) fun c0 => spec_l6Copy n c0)
def spec_l6Copy_ent (n : Nat) : Ent T := ⟨130, 16, [], SChart, spec_l6Copy_D n, spec_l6Copy_enc⟩
def spec_l1In_D (n : Nat) (r0 : List (A T)) : Option Bool := ocons r0 fun a0 r1 => ocons r1 fun a1 r2 => ocons r2 fun a2 r3 => onil r3 (obind (argV (T := T) 3 a0) fun x0 => obind (argV (T := T) 3 a1) fun a1 => obind (argV (T := T) 3 a2) fun b2 => spec_l1In n x0 a1 b2)
def spec_l1In_ent (n : Nat) : Ent T := ⟨100, 17, [], Bool, spec_l1In_D n, spec_l1In_enc⟩
def spec_l6Depth_D (n : Nat) (r0 : List (A T)) : Option Bool := ocons r0 fun a0 r1 => onil r1 (obind (argV (T := T) 3 a0) fun d0 => spec_l6Depth n d0)
def spec_l6Depth_ent (n : Nat) : Ent T := ⟨117, 18, [], Bool, spec_l6Depth_D n, spec_l6Depth_enc⟩
def spec_l6Place_D (n : Nat) (r0 : List (A T)) : Option Bool := ocons r0 fun a0 r1 => ocons r1 fun a1 r2 => ocons r2 fun a2 r3 => onil r3 (obind (argV (T := T) 63 a0) fun c0 => obind (argV (T := T) 3 a1) fun x1 => obind (argV (T := T) 3 a2) fun y2 => spec_l6Place n c0 x1 y2)
def spec_l6Place_ent (n : Nat) : Ent T := ⟨127, 19, [], Bool, spec_l6Place_D n, spec_l6Place_enc⟩
def spec_l6Feature_D (n : Nat) (r0 : List (A T)) : Option Bool := ocons r0 fun a0 r1 => ocons r1 fun a1 r2 => onil r2 (obind (argV (T := T) 63 a0) fun c0 => obind (argV (T := T) 181 a1) fun f1 => spec_l6Feature n c0 f1)
def spec_l6Feature_ent (n : Nat) : Ent T := ⟨118, 20, [], Bool, spec_l6Feature_D n, spec_l6Feature_enc⟩
def spec_ChartOk_D (n : Nat) (r0 : List (A T)) : Option Bool := ocons r0 fun a0 r1 => onil r1 (obind (argV (T := T) 63 a0) fun c0 => spec_ChartOk n c0)
def spec_ChartOk_ent (n : Nat) : Ent T := ⟨43, 21, [], Bool, spec_ChartOk_D n, spec_ChartOk_enc⟩
def spec_l6Find_D (n : Nat) (r0 : List (A T)) : Option Int := ocons r0 fun a0 r1 => ocons r1 fun a1 r2 => onil r2 (obind (argV (T := T) 63 a0) fun c0 => obind (argV (T := T) 3 a1) fun id1 => spec_l6Find n c0 id1)
def spec_l6Find_ent (n : Nat) : Ent T := ⟨201, 22, [], Int, spec_l6Find_D n, spec_l6Find_enc⟩
def spec_l6Note_D (n : Nat) (r0 : List (A T)) : Option (SChart × Bool) := ocons r0 fun a0 r1 => ocons r1 fun a1 r2 => onil r2 (obind (argV (T := T) 63 a0) fun c0 => obind (argV (T := T) 196 a1) fun n1 => spec_l6Note n c0 n1)
def spec_l6Note_ent (n : Nat) : Ent T := ⟨131, 23, [], SChart × Bool, spec_l6Note_D n, spec_l6Note_enc⟩
def spec_Apply6_D (n : Nat) (r0 : List (A T)) : Option (SChart × Int) := ocons r0 fun a0 r1 => ocons r1 fun a1 r2 => onil r2 (obind (argV (T := T) 63 a0) fun c0 => obind (argV (T := T) 85 a1) fun u1 => spec_Apply6 n c0 u1)
def spec_Apply6_ent (n : Nat) : Ent T := ⟨50, 24, [], SChart × Int, spec_Apply6_D n, spec_Apply6_enc⟩
def spec_Catch_D (n : Nat) (r0 : List (A T)) : Option (SChart × List Int) := ocons r0 fun a0 r1 => ocons r1 fun a1 r2 => onil r2 (obind (argV (T := T) 63 a0) fun c0 => obind (argV (T := T) 94 a1) fun list1 => spec_Catch n c0 list1)
def spec_Catch_ent (n : Nat) : Ent T := ⟨57, 25, [], SChart × List Int, spec_Catch_D n, spec_Catch_enc⟩
def impl_own_int_D (n : Nat) (r0 : List (A T)) : Option (List Int) := ocons r0 fun a0 r1 => onil r1 (obind (argV (T := T) 55 a0) fun l0 => impl_own_int n l0)
def impl_own_int_ent (n : Nat) : Ent T := ⟨104, 26, [], List Int, impl_own_int_D n, impl_own_int_enc⟩
def impl_own_impl_Feature_D (n : Nat) (r0 : List (A T)) : Option (List SFeature) := ocons r0 fun a0 r1 => onil r1 (obind (argV (T := T) 61 a0) fun l0 => impl_own_impl_Feature n l0)
def impl_own_impl_Feature_ent (n : Nat) : Ent T := ⟨203, 27, [], List SFeature, impl_own_impl_Feature_D n, impl_own_impl_Feature_enc⟩
def impl_Chart_own_D (n : Nat) (r0 : List (A T)) : Option SChart := ocons r0 fun a0 r1 => onil r1 (obind (argV (T := T) 63 a0) fun c0 => impl_Chart_own n c0)
def impl_Chart_own_ent (n : Nat) : Ent T := ⟨133, 28, [], SChart, impl_Chart_own_D n, impl_Chart_own_enc⟩
def impl_in_D (n : Nat) (r0 : List (A T)) : Option Bool := ocons r0 fun a0 r1 => ocons r1 fun a1 r2 => ocons r2 fun a2 r3 => onil r3 (obind (argV (T := T) 3 a0) fun n0 => obind (argV (T := T) 3 a1) fun least1 => obind (argV (T := T) 3 a2) fun most2 => impl_in n n0 least1 most2)
def impl_in_ent (n : Nat) : Ent T := ⟨119, 29, [], Bool, impl_in_D n, impl_in_enc⟩
def impl_all_1_D (n : Nat) (r0 : List (A T)) : Option Bool := ocons r0 fun a0 r1 => ocons r1 fun a1 r2 => ocons r2 fun a2 r3 => onil r3 (obind (argV (T := T) 3 a0) fun n0 => obind (argP (T := T) 3 a1) fun a1 => obind (argP (T := T) 3 a2) fun a2 => impl_all_1 n n0 a1 a2)
def impl_all_1_ent (n : Nat) : Ent T := ⟨196, 30, [], Bool, impl_all_1_D n, impl_all_1_enc⟩
def slices_IndexFunc_int_int__impl_all_1_D (n : Nat) (ar : List (A T)) : Option Int := match ar with
  | [a0, .fn _ [k1_0, k1_1]] => obind (argV (T := T) 55 a0) fun s0 => obind (argP (T := T) 3 k1_0) fun f1c0 => obind (argP (T := T) 3 k1_1) fun f1c1 => slices_IndexFunc_int_int__impl_all_1 n s0 f1c0 f1c1
  | _ => none
def slices_IndexFunc_int_int__impl_all_1_ent (n : Nat) : Ent T := ⟨222, 31, [196], Int, slices_IndexFunc_int_int__impl_all_1_D n, slices_IndexFunc_int_int__impl_all_1_enc⟩
def slices_ContainsFunc_int_int__impl_all_1_D (n : Nat) (ar : List (A T)) : Option Bool := match ar with
  | [a0, .fn _ [k1_0, k1_1]] => obind (argV (T := T) 55 a0) fun s0 => obind (argP (T := T) 3 k1_0) fun f1c0 => obind (argP (T := T) 3 k1_1) fun f1c1 => slices_ContainsFunc_int_int__impl_all_1 n s0 f1c0 f1c1
  | _ => none
def slices_ContainsFunc_int_int__impl_all_1_ent (n : Nat) : Ent T := ⟨158, 32, [196], Bool, slices_ContainsFunc_int_int__impl_all_1_D n, slices_ContainsFunc_int_int__impl_all_1_enc⟩
def impl_all_D (n : Nat) (r0 : List (A T)) : Option Bool := ocons r0 fun a0 r1 => ocons r1 fun a1 r2 => ocons r2 fun a2 r3 => onil r3 (obind (argV (T := T) 55 a0) fun l0 => obind (argV (T := T) 3 a1) fun least1 => obind (argV (T := T) 3 a2) fun most2 => impl_all n l0 least1 most2)
def impl_all_ent (n : Nat) : Ent T := ⟨120, 33, [], Bool, impl_all_D n, impl_all_enc⟩
def impl_Chart_place_D (n : Nat) (r0 : List (A T)) : Option Bool := ocons r0 fun a0 r1 => ocons r1 fun a1 r2 => ocons r2 fun a2 r3 => onil r3 (obind (argV (T := T) 63 a0) fun c0 => obind (argV (T := T) 3 a1) fun x1 => obind (argV (T := T) 3 a2) fun y2 => impl_Chart_place n c0 x1 y2)
def impl_Chart_place_ent (n : Nat) : Ent T := ⟨122, 34, [], Bool, impl_Chart_place_D n, impl_Chart_place_enc⟩
def impl_Chart_featureOk_D (n : Nat) (r0 : List (A T)) : Option Bool := ocons r0 fun a0 r1 => ocons r1 fun a1 r2 => onil r2 (obind (argV (T := T) 63 a0) fun c0 => obind (argV (T := T) 181 a1) fun f1 => impl_Chart_featureOk n c0 f1)
def impl_Chart_featureOk_ent (n : Nat) : Ent T := ⟨121, 35, [], Bool, impl_Chart_featureOk_D n, impl_Chart_featureOk_enc⟩
def impl_ChartOk_D (n : Nat) (r0 : List (A T)) : Option Bool := ocons r0 fun a0 r1 => onil r1 (obind (argV (T := T) 63 a0) fun c0 => impl_ChartOk n c0)
def impl_ChartOk_ent (n : Nat) : Ent T := ⟨44, 36, [], Bool, impl_ChartOk_D n, impl_ChartOk_enc⟩
def impl_Chart_note_1_D (n : Nat) (r0 : List (A T)) : Option Bool := ocons r0 fun a0 r1 => ocons r1 fun a1 r2 => onil r2 (obind (argV (T := T) 181 a0) fun f0 => obind (argP (T := T) 196 a1) fun a1 => impl_Chart_note_1 n f0 a1)
def impl_Chart_note_1_ent (n : Nat) : Ent T := ⟨205, 37, [], Bool, impl_Chart_note_1_D n, impl_Chart_note_1_enc⟩
def slices_IndexFunc_impl_Feature_impl_Feature__impl_Chart_note_1_D (n : Nat) (ar : List (A T)) : Option Int := match ar with
  | [a0, .fn _ [k1_0]] => obind (argV (T := T) 61 a0) fun s0 => obind (argP (T := T) 196 k1_0) fun f1c0 => slices_IndexFunc_impl_Feature_impl_Feature__impl_Chart_note_1 n s0 f1c0
  | _ => none
def slices_IndexFunc_impl_Feature_impl_Feature__impl_Chart_note_1_ent (n : Nat) : Ent T := ⟨204, 38, [205], Int, slices_IndexFunc_impl_Feature_impl_Feature__impl_Chart_note_1_D n, slices_IndexFunc_impl_Feature_impl_Feature__impl_Chart_note_1_enc⟩
def impl_Chart_note_2_D (n : Nat) (r0 : List (A T)) : Option Int := ocons r0 fun a0 r1 => ocons r1 fun a1 r2 => onil r2 (obind (argV (T := T) 181 a0) fun a0 => obind (argV (T := T) 181 a1) fun b1 => impl_Chart_note_2 n a0 b1)
def impl_Chart_note_2_ent (n : Nat) : Ent T := ⟨207, 39, [], Int, impl_Chart_note_2_D n, impl_Chart_note_2_enc⟩
def slices_SortFunc_impl_Feature_impl_Feature__impl_Chart_note_2_D (n : Nat) (ar : List (A T)) : Option (List SFeature) := match ar with
  | [a0, .fn _ []] => obind (argV (T := T) 61 a0) fun l0 => slices_SortFunc_impl_Feature_impl_Feature__impl_Chart_note_2 n l0
  | _ => none
def slices_SortFunc_impl_Feature_impl_Feature__impl_Chart_note_2_ent (n : Nat) : Ent T := ⟨206, 40, [207], List SFeature, slices_SortFunc_impl_Feature_impl_Feature__impl_Chart_note_2_D n, slices_SortFunc_impl_Feature_impl_Feature__impl_Chart_note_2_enc⟩
def slices_Delete_impl_Feature_impl_Feature_D (n : Nat) (r0 : List (A T)) : Option (List SFeature) := ocons r0 fun a0 r1 => ocons r1 fun a1 r2 => ocons r2 fun a2 r3 => onil r3 (obind (argV (T := T) 61 a0) fun l0 => obind (argV (T := T) 3 a1) fun i1 => obind (argV (T := T) 3 a2) fun j2 => slices_Delete_impl_Feature_impl_Feature n l0 i1 j2)
def slices_Delete_impl_Feature_impl_Feature_ent (n : Nat) : Ent T := ⟨208, 41, [], List SFeature, slices_Delete_impl_Feature_impl_Feature_D n, slices_Delete_impl_Feature_impl_Feature_enc⟩
def impl_depthOk_D (n : Nat) (r0 : List (A T)) : Option Bool := ocons r0 fun a0 r1 => onil r1 (obind (argV (T := T) 3 a0) fun d0 => impl_depthOk n d0)
def impl_depthOk_ent (n : Nat) : Ent T := ⟨209, 42, [], Bool, impl_depthOk_D n, impl_depthOk_enc⟩
def impl_Chart_note_D (n : Nat) (r0 : List (A T)) : Option (Bool × SChart) := ocons r0 fun a0 r1 => ocons r1 fun a1 r2 => onil r2 (obind (argP (T := T) 63 a0) fun c0 => obind (argV (T := T) 196 a1) fun n1 => impl_Chart_note n c0 n1)
def impl_Chart_note_ent (n : Nat) : Ent T := ⟨134, 43, [], Bool × SChart, impl_Chart_note_D n, impl_Chart_note_enc⟩
def impl_Apply6_D (n : Nat) (r0 : List (A T)) : Option (SChart × Int) := ocons r0 fun a0 r1 => ocons r1 fun a1 r2 => onil r2 (obind (argV (T := T) 63 a0) fun c0 => obind (argV (T := T) 85 a1) fun u1 => impl_Apply6 n c0 u1)
def impl_Apply6_ent (n : Nat) : Ent T := ⟨52, 44, [], SChart × Int, impl_Apply6_D n, impl_Apply6_enc⟩
def impl_Catch_D (n : Nat) (r0 : List (A T)) : Option (SChart × List Int) := ocons r0 fun a0 r1 => ocons r1 fun a1 r2 => onil r2 (obind (argV (T := T) 63 a0) fun c0 => obind (argV (T := T) 94 a1) fun list1 => impl_Catch n c0 list1)
def impl_Catch_ent (n : Nat) : Ent T := ⟨59, 45, [], SChart × List Int, impl_Catch_D n, impl_Catch_enc⟩
def laws_eqIntS_D (n : Nat) (r0 : List (A T)) : Option Bool := ocons r0 fun a0 r1 => ocons r1 fun a1 r2 => onil r2 (obind (argV (T := T) 55 a0) fun a0 => obind (argV (T := T) 55 a1) fun b1 => laws_eqIntS n a0 b1)
def laws_eqIntS_ent (n : Nat) : Ent T := ⟨37, 46, [], Bool, laws_eqIntS_D n, laws_eqIntS_enc⟩
def laws_eqFeature_D (n : Nat) (r0 : List (A T)) : Option Bool := ocons r0 fun a0 r1 => ocons r1 fun a1 r2 => onil r2 (obind (argV (T := T) 181 a0) fun a0 => obind (argV (T := T) 181 a1) fun b1 => laws_eqFeature n a0 b1)
def laws_eqFeature_ent (n : Nat) : Ent T := ⟨193, 47, [], Bool, laws_eqFeature_D n, laws_eqFeature_enc⟩
def laws_eqFeatureS_D (n : Nat) (r0 : List (A T)) : Option Bool := ocons r0 fun a0 r1 => ocons r1 fun a1 r2 => onil r2 (obind (argV (T := T) 61 a0) fun a0 => obind (argV (T := T) 61 a1) fun b1 => laws_eqFeatureS n a0 b1)
def laws_eqFeatureS_ent (n : Nat) : Ent T := ⟨114, 48, [], Bool, laws_eqFeatureS_D n, laws_eqFeatureS_enc⟩
def laws_eqChart_D (n : Nat) (r0 : List (A T)) : Option Bool := ocons r0 fun a0 r1 => ocons r1 fun a1 r2 => onil r2 (obind (argV (T := T) 63 a0) fun a0 => obind (argV (T := T) 63 a1) fun b1 => laws_eqChart n a0 b1)
def laws_eqChart_ent (n : Nat) : Ent T := ⟨38, 49, [], Bool, laws_eqChart_D n, laws_eqChart_enc⟩
def laws_eqNote_D (n : Nat) (r0 : List (A T)) : Option Bool := ocons r0 fun a0 r1 => ocons r1 fun a1 r2 => onil r2 (obind (argV (T := T) 196 a0) fun a0 => obind (argV (T := T) 196 a1) fun b1 => laws_eqNote n a0 b1)
def laws_eqNote_ent (n : Nat) : Ent T := ⟨210, 50, [], Bool, laws_eqNote_D n, laws_eqNote_enc⟩
def laws_eqNoteS_D (n : Nat) (r0 : List (A T)) : Option Bool := ocons r0 fun a0 r1 => ocons r1 fun a1 r2 => onil r2 (obind (argV (T := T) 83 a0) fun a0 => obind (argV (T := T) 83 a1) fun b1 => laws_eqNoteS n a0 b1)
def laws_eqNoteS_ent (n : Nat) : Ent T := ⟨135, 51, [], Bool, laws_eqNoteS_D n, laws_eqNoteS_enc⟩
def laws_eqUpdate_D (n : Nat) (r0 : List (A T)) : Option Bool := ocons r0 fun a0 r1 => ocons r1 fun a1 r2 => onil r2 (obind (argV (T := T) 85 a0) fun a0 => obind (argV (T := T) 85 a1) fun b1 => laws_eqUpdate n a0 b1)
def laws_eqUpdate_ent (n : Nat) : Ent T := ⟨53, 52, [], Bool, laws_eqUpdate_D n, laws_eqUpdate_enc⟩
def laws_eqUpdateS_D (n : Nat) (r0 : List (A T)) : Option Bool := ocons r0 fun a0 r1 => ocons r1 fun a1 r2 => onil r2 (obind (argV (T := T) 94 a0) fun a0 => obind (argV (T := T) 94 a1) fun b1 => laws_eqUpdateS n a0 b1)
def laws_eqUpdateS_ent (n : Nat) : Ent T := ⟨60, 53, [], Bool, laws_eqUpdateS_D n, laws_eqUpdateS_enc⟩
def laws_markIntS_D (n : Nat) (r0 : List (A T)) : Option (Int × List Int) := ocons r0 fun a0 r1 => ocons r1 fun a1 r2 => onil r2 (obind (argV (T := T) 55 a0) fun a0 => obind (argV (T := T) 3 a1) fun k1 => laws_markIntS n a0 k1)
def laws_markIntS_ent (n : Nat) : Ent T := ⟨40, 54, [], Int × List Int, laws_markIntS_D n, laws_markIntS_enc⟩
def laws_markText_D (n : Nat) (r0 : List (A T)) : Option ByteArray := ocons r0 fun a0 r1 => onil r1 (obind (argV (T := T) 3 a0) fun k0 => laws_markText n k0)
def laws_markText_ent (n : Nat) : Ent T := ⟨194, 55, [], ByteArray, laws_markText_D n, laws_markText_enc⟩
def laws_markFeatureS_D (n : Nat) (r0 : List (A T)) : Option (Int × List SFeature) := ocons r0 fun a0 r1 => ocons r1 fun a1 r2 => onil r2 (obind (argV (T := T) 61 a0) fun a0 => obind (argV (T := T) 3 a1) fun k1 => laws_markFeatureS n a0 k1)
def laws_markFeatureS_ent (n : Nat) : Ent T := ⟨115, 56, [], Int × List SFeature, laws_markFeatureS_D n, laws_markFeatureS_enc⟩
def laws_markChart_D (n : Nat) (r0 : List (A T)) : Option (Int × List Int × List SFeature) := ocons r0 fun a0 r1 => ocons r1 fun a1 r2 => onil r2 (obind (argV (T := T) 63 a0) fun a0 => obind (argV (T := T) 3 a1) fun k1 => laws_markChart n a0 k1)
def laws_markChart_ent (n : Nat) : Ent T := ⟨39, 57, [], Int × List Int × List SFeature, laws_markChart_D n, laws_markChart_enc⟩
def laws_markNoteS_D (n : Nat) (r0 : List (A T)) : Option (Int × List SNote) := ocons r0 fun a0 r1 => ocons r1 fun a1 r2 => onil r2 (obind (argV (T := T) 83 a0) fun a0 => obind (argV (T := T) 3 a1) fun k1 => laws_markNoteS n a0 k1)
def laws_markNoteS_ent (n : Nat) : Ent T := ⟨136, 58, [], Int × List SNote, laws_markNoteS_D n, laws_markNoteS_enc⟩
def laws_markUpdateS_D (n : Nat) (r0 : List (A T)) : Option (Int × List SUpdate) := ocons r0 fun a0 r1 => ocons r1 fun a1 r2 => onil r2 (obind (argV (T := T) 94 a0) fun a0 => obind (argV (T := T) 3 a1) fun k1 => laws_markUpdateS n a0 k1)
def laws_markUpdateS_ent (n : Nat) : Ent T := ⟨61, 59, [], Int × List SUpdate, laws_markUpdateS_D n, laws_markUpdateS_enc⟩
def laws_heldIntS_D (n : Nat) (r0 : List (A T)) : Option Int := ocons r0 fun a0 r1 => ocons r1 fun a1 r2 => onil r2 (obind (argV (T := T) 55 a0) fun a0 => obind (argV (T := T) 3 a1) fun k1 => laws_heldIntS n a0 k1)
def laws_heldIntS_ent (n : Nat) : Ent T := ⟨41, 60, [], Int, laws_heldIntS_D n, laws_heldIntS_enc⟩
def laws_heldFeatureS_D (n : Nat) (r0 : List (A T)) : Option Int := ocons r0 fun a0 r1 => ocons r1 fun a1 r2 => onil r2 (obind (argV (T := T) 61 a0) fun a0 => obind (argV (T := T) 3 a1) fun k1 => laws_heldFeatureS n a0 k1)
def laws_heldFeatureS_ent (n : Nat) : Ent T := ⟨137, 61, [], Int, laws_heldFeatureS_D n, laws_heldFeatureS_enc⟩
def laws_heldChart_D (n : Nat) (r0 : List (A T)) : Option Int := ocons r0 fun a0 r1 => ocons r1 fun a1 r2 => onil r2 (obind (argV (T := T) 63 a0) fun a0 => obind (argV (T := T) 3 a1) fun k1 => laws_heldChart n a0 k1)
def laws_heldChart_ent (n : Nat) : Ent T := ⟨55, 62, [], Int, laws_heldChart_D n, laws_heldChart_enc⟩
def laws_FnExactCatch_D (n : Nat) (r0 : List (A T)) : Option Bool := ocons r0 fun a0 r1 => ocons r1 fun a1 r2 => onil r2 (obind (argV (T := T) 58 a0) fun aC0 => obind (argV (T := T) 90 a1) fun aList1 => laws_FnExactCatch n aC0 aList1)
def laws_FnExactCatch_ent (n : Nat) : Ent T := ⟨9, 63, [], Bool, laws_FnExactCatch_D n, laws_FnExactCatch_enc⟩
def ents (n : Nat) : List (Ent T) := [laws_szIntS_ent n, laws_szFeature_ent n, laws_szFeatureS_ent n, laws_szChart_ent n, laws_szNote_ent n, laws_szNoteS_ent n, laws_szUpdate_ent n, laws_szUpdateS_ent n, laws_toIntS_ent n, laws_toFeature_ent n, laws_toFeatureS_ent n, laws_toChart_ent n, laws_toNote_ent n, laws_toNoteS_ent n, laws_toUpdate_ent n, laws_toUpdateS_ent n, spec_l6Copy_ent n, spec_l1In_ent n, spec_l6Depth_ent n, spec_l6Place_ent n, spec_l6Feature_ent n, spec_ChartOk_ent n, spec_l6Find_ent n, spec_l6Note_ent n, spec_Apply6_ent n, spec_Catch_ent n, impl_own_int_ent n, impl_own_impl_Feature_ent n, impl_Chart_own_ent n, impl_in_ent n, impl_all_1_ent n, slices_IndexFunc_int_int__impl_all_1_ent n, slices_ContainsFunc_int_int__impl_all_1_ent n, impl_all_ent n, impl_Chart_place_ent n, impl_Chart_featureOk_ent n, impl_ChartOk_ent n, impl_Chart_note_1_ent n, slices_IndexFunc_impl_Feature_impl_Feature__impl_Chart_note_1_ent n, impl_Chart_note_2_ent n, slices_SortFunc_impl_Feature_impl_Feature__impl_Chart_note_2_ent n, slices_Delete_impl_Feature_impl_Feature_ent n, impl_depthOk_ent n, impl_Chart_note_ent n, impl_Apply6_ent n, impl_Catch_ent n, laws_eqIntS_ent n, laws_eqFeature_ent n, laws_eqFeatureS_ent n, laws_eqChart_ent n, laws_eqNote_ent n, laws_eqNoteS_ent n, laws_eqUpdate_ent n, laws_eqUpdateS_ent n, laws_markIntS_ent n, laws_markText_ent n, laws_markFeatureS_ent n, laws_markChart_ent n, laws_markNoteS_ent n, laws_markUpdateS_ent n, laws_heldIntS_ent n, laws_heldFeatureS_ent n, laws_heldChart_ent n, laws_FnExactCatch_ent n]
abbrev Phi (n i : Nat) {R : Type} (f : Nat) (ar : List (A T)) (K : Res T → Option R) : Option R := PhiE (ents n) i f ar K
theorem mixed : Try.prog.follows .mixedOrders = true := by kernel_rfl
noncomputable def laws_szIntS_code : Code := match Try.f110.body with | some c => c | none => .skip
def laws_szIntS_ann : Ann := fun id => none
def laws_szIntS_Ls (n : Nat) : Nat → Option (LSpec T) := fun id => none
theorem laws_szIntS_tie (n : Nat) (a0 : List Int) (left1 : Int) : evF (T := T) (Phi n 0) (laws_szIntS_Ls n) laws_szIntS_ann n Try.f110 (sg 110) [vA T 55 a0, vA T 3 left1] laws_szIntS_dec = laws_szIntS n a0 left1 := by kernel_rfl
theorem laws_szIntS_lo (n : Nat) : LoopsOk (T := T) (Phi n 0) (laws_szIntS_Ls n) laws_szIntS_ann n laws_szIntS_code := loopsOk_all (cs := []) (by kernel_rfl) trivial
theorem laws_szIntS_ok (n : Nat) : EntOk Try.prog (ents n) (laws_szIntS_ent n) := by
  intro hs ar y hg h
  replace h : laws_szIntS_D n ar = some y := h
  unfold laws_szIntS_D at h
  replace h := ocons_some h
  obtain ⟨a0, r0, rfl, h⟩ := h
  replace h := ocons_some h
  obtain ⟨a1, r1, rfl, h⟩ := h
  replace h := onil_some h
  obtain ⟨rfl, h⟩ := h
  obtain ⟨a0, qh0, h⟩ := obind_some h
  obtain ⟨left1, qh1, h⟩ := obind_some h
  rw [argV_eq ok qh0, argV_eq ok qh1]
  exact call_of (phiE_nat _ _) hs ok mixed Try.func110 (c := laws_szIntS_code) (by kernel_rfl) (laws_szIntS_lo n) (by kernel_rfl) (by kernel_rfl) (by kernel_rfl) laws_szIntS_de ((laws_szIntS_tie n a0 left1).trans h)
noncomputable def laws_szFeature_code : Code := match Try.f191.body with | some c => c | none => .skip
def laws_szFeature_ann : Ann := fun id => none
def laws_szFeature_Ls (n : Nat) : Nat → Option (LSpec T) := fun id => none
theorem laws_szFeature_tie (n : Nat) (a0 : SFeature) (left1 : Int) : evF (T := T) (Phi n 1) (laws_szFeature_Ls n) laws_szFeature_ann n Try.f191 (sg 191) [vA T 251 a0, vA T 3 left1] laws_szFeature_dec = laws_szFeature n a0 left1 := by kernel_rfl
theorem laws_szFeature_lo (n : Nat) : LoopsOk (T := T) (Phi n 1) (laws_szFeature_Ls n) laws_szFeature_ann n laws_szFeature_code := loopsOk_all (cs := []) (by kernel_rfl) trivial
theorem laws_szFeature_ok (n : Nat) : EntOk Try.prog (ents n) (laws_szFeature_ent n) := by
  intro hs ar y hg h
  replace h : laws_szFeature_D n ar = some y := h
  unfold laws_szFeature_D at h
  replace h := ocons_some h
  obtain ⟨a0, r0, rfl, h⟩ := h
  replace h := ocons_some h
  obtain ⟨a1, r1, rfl, h⟩ := h
  replace h := onil_some h
  obtain ⟨rfl, h⟩ := h
  obtain ⟨a0, qh0, h⟩ := obind_some h
  obtain ⟨left1, qh1, h⟩ := obind_some h
  rw [argV_eq ok qh0, argV_eq ok qh1]
  exact call_of (phiE_nat _ _) hs ok mixed Try.func191 (c := laws_szFeature_code) (by kernel_rfl) (laws_szFeature_lo n) (by kernel_rfl) (by kernel_rfl) (by kernel_rfl) laws_szFeature_de ((laws_szFeature_tie n a0 left1).trans h)
noncomputable def laws_szFeatureS_code : Code := match Try.f111.body with | some c => c | none => .skip
def laws_szFeatureS_5_sv : List Sv := [.one (.arr 251), .one (.int .i64), .one (.int .i64)]
def laws_szFeatureS_5_so : List So := []
def laws_szFeatureS_5_emb (c : List SFeature) (x : Int × Int) : EVs T laws_szFeatureS_5_sv × EOs T laws_szFeatureS_5_so := ((c, x.1, x.2, ()), ())
def laws_szFeatureS_5_prj (y : EVs T laws_szFeatureS_5_sv × EOs T laws_szFeatureS_5_so) : List SFeature × (Int × Int) := ((y.1.1), (y.1.2.1, y.1.2.2.1))
def laws_szFeatureS_5_b (n : Nat) {R : Type} (K : Ex → Sm.St T → Option R) (c : List SFeature) (x : Int × Int) (J : (Int × Int) → Option R) : Option R :=
  laws_szFeatureS_L5 n (fun (y0 : Int) => K (.exit 0) (stOf (T := T) [1] [] [.one (.int .i64)] [] (y0, ()) ())) (fun (y0 : Int) => K .ret (stOf (T := T) [4] [] [.one (.int .i64)] [] (y0, ()) ())) (fun z0 z1 => J (z0, z1)) c x.1 x.2
def laws_szFeatureS_5_sp (n : Nat) : LSpec T := mkSpec T ⟨[], [0, 1, 5], []⟩ laws_szFeatureS_5_sv laws_szFeatureS_5_so (List SFeature) (Int × Int) laws_szFeatureS_5_emb laws_szFeatureS_5_prj (laws_szFeatureS_5_b n)
noncomputable def laws_szFeatureS_5_c : Code := ((loopCodes laws_szFeatureS_code)[0]?).getD .skip
def laws_szFeatureS_ann : Ann := fun id => bif Nat.beq id 3000005 then some ⟨[], [1], []⟩ else bif Nat.beq id 2000005 then some ⟨[], [4], []⟩ else none
def laws_szFeatureS_Ls (n : Nat) : Nat → Option (LSpec T) := fun id => bif Nat.beq id 5 then some (laws_szFeatureS_5_sp n) else none
theorem laws_szFeatureS_5_le (n : Nat) : LoopEq (T := T) (Phi n 2) (laws_szFeatureS_Ls n) laws_szFeatureS_ann n laws_szFeatureS_5_c (laws_szFeatureS_5_sp n) := ⟨mkSpec_dec (fun y => rfl), fun c x => by kernel_rfl, fun K J c x => by kernel_rfl⟩
theorem laws_szFeatureS_tie (n : Nat) (a0 : List SFeature) (left1 : Int) : evF (T := T) (Phi n 2) (laws_szFeatureS_Ls n) laws_szFeatureS_ann n Try.f111 (sg 111) [vA T 56 a0, vA T 3 left1] laws_szFeatureS_dec = laws_szFeatureS n a0 left1 := by kernel_rfl
theorem laws_szFeatureS_lo (n : Nat) : LoopsOk (T := T) (Phi n 2) (laws_szFeatureS_Ls n) laws_szFeatureS_ann n laws_szFeatureS_code := loopsOk_all (cs := [laws_szFeatureS_5_c]) (by kernel_rfl) ⟨⟨_, by kernel_rfl, laws_szFeatureS_5_le n⟩, trivial⟩
theorem laws_szFeatureS_ok (n : Nat) : EntOk Try.prog (ents n) (laws_szFeatureS_ent n) := by
  intro hs ar y hg h
  replace h : laws_szFeatureS_D n ar = some y := h
  unfold laws_szFeatureS_D at h
  replace h := ocons_some h
  obtain ⟨a0, r0, rfl, h⟩ := h
  replace h := ocons_some h
  obtain ⟨a1, r1, rfl, h⟩ := h
  replace h := onil_some h
  obtain ⟨rfl, h⟩ := h
  obtain ⟨a0, qh0, h⟩ := obind_some h
  obtain ⟨left1, qh1, h⟩ := obind_some h
  rw [argV_eq ok qh0, argV_eq ok qh1]
  exact call_of (phiE_nat _ _) hs ok mixed Try.func111 (c := laws_szFeatureS_code) (by kernel_rfl) (laws_szFeatureS_lo n) (by kernel_rfl) (by kernel_rfl) (by kernel_rfl) laws_szFeatureS_de ((laws_szFeatureS_tie n a0 left1).trans h)
noncomputable def laws_szChart_code : Code := match Try.f33.body with | some c => c | none => .skip
def laws_szChart_ann : Ann := fun id => none
def laws_szChart_Ls (n : Nat) : Nat → Option (LSpec T) := fun id => none
theorem laws_szChart_tie (n : Nat) (a0 : SChart) (left1 : Int) : evF (T := T) (Phi n 3) (laws_szChart_Ls n) laws_szChart_ann n Try.f33 (sg 33) [vA T 58 a0, vA T 3 left1] laws_szChart_dec = laws_szChart n a0 left1 := by kernel_rfl
theorem laws_szChart_lo (n : Nat) : LoopsOk (T := T) (Phi n 3) (laws_szChart_Ls n) laws_szChart_ann n laws_szChart_code := loopsOk_all (cs := []) (by kernel_rfl) trivial
theorem laws_szChart_ok (n : Nat) : EntOk Try.prog (ents n) (laws_szChart_ent n) := by
  intro hs ar y hg h
  replace h : laws_szChart_D n ar = some y := h
  unfold laws_szChart_D at h
  replace h := ocons_some h
  obtain ⟨a0, r0, rfl, h⟩ := h
  replace h := ocons_some h
  obtain ⟨a1, r1, rfl, h⟩ := h
  replace h := onil_some h
  obtain ⟨rfl, h⟩ := h
  obtain ⟨a0, qh0, h⟩ := obind_some h
  obtain ⟨left1, qh1, h⟩ := obind_some h
  rw [argV_eq ok qh0, argV_eq ok qh1]
  exact call_of (phiE_nat _ _) hs ok mixed Try.func33 (c := laws_szChart_code) (by kernel_rfl) (laws_szChart_lo n) (by kernel_rfl) (by kernel_rfl) (by kernel_rfl) laws_szChart_de ((laws_szChart_tie n a0 left1).trans h)
noncomputable def laws_szNote_code : Code := match Try.f200.body with | some c => c | none => .skip
def laws_szNote_ann : Ann := fun id => none
def laws_szNote_Ls (n : Nat) : Nat → Option (LSpec T) := fun id => none
theorem laws_szNote_tie (n : Nat) (a0 : SNote) (left1 : Int) : evF (T := T) (Phi n 4) (laws_szNote_Ls n) laws_szNote_ann n Try.f200 (sg 200) [vA T 260 a0, vA T 3 left1] laws_szNote_dec = laws_szNote n a0 left1 := by kernel_rfl
theorem laws_szNote_lo (n : Nat) : LoopsOk (T := T) (Phi n 4) (laws_szNote_Ls n) laws_szNote_ann n laws_szNote_code := loopsOk_all (cs := []) (by kernel_rfl) trivial
theorem laws_szNote_ok (n : Nat) : EntOk Try.prog (ents n) (laws_szNote_ent n) := by
  intro hs ar y hg h
  replace h : laws_szNote_D n ar = some y := h
  unfold laws_szNote_D at h
  replace h := ocons_some h
  obtain ⟨a0, r0, rfl, h⟩ := h
  replace h := ocons_some h
  obtain ⟨a1, r1, rfl, h⟩ := h
  replace h := onil_some h
  obtain ⟨rfl, h⟩ := h
  obtain ⟨a0, qh0, h⟩ := obind_some h
  obtain ⟨left1, qh1, h⟩ := obind_some h
  rw [argV_eq ok qh0, argV_eq ok qh1]
  exact call_of (phiE_nat _ _) hs ok mixed Try.func200 (c := laws_szNote_code) (by kernel_rfl) (laws_szNote_lo n) (by kernel_rfl) (by kernel_rfl) (by kernel_rfl) laws_szNote_de ((laws_szNote_tie n a0 left1).trans h)
noncomputable def laws_szNoteS_code : Code := match Try.f129.body with | some c => c | none => .skip
def laws_szNoteS_5_sv : List Sv := [.one (.arr 260), .one (.int .i64), .one (.int .i64)]
def laws_szNoteS_5_so : List So := []
def laws_szNoteS_5_emb (c : List SNote) (x : Int × Int) : EVs T laws_szNoteS_5_sv × EOs T laws_szNoteS_5_so := ((c, x.1, x.2, ()), ())
def laws_szNoteS_5_prj (y : EVs T laws_szNoteS_5_sv × EOs T laws_szNoteS_5_so) : List SNote × (Int × Int) := ((y.1.1), (y.1.2.1, y.1.2.2.1))
def laws_szNoteS_5_b (n : Nat) {R : Type} (K : Ex → Sm.St T → Option R) (c : List SNote) (x : Int × Int) (J : (Int × Int) → Option R) : Option R :=
  laws_szNoteS_L5 n (fun (y0 : Int) => K (.exit 0) (stOf (T := T) [1] [] [.one (.int .i64)] [] (y0, ()) ())) (fun (y0 : Int) => K .ret (stOf (T := T) [4] [] [.one (.int .i64)] [] (y0, ()) ())) (fun z0 z1 => J (z0, z1)) c x.1 x.2
def laws_szNoteS_5_sp (n : Nat) : LSpec T := mkSpec T ⟨[], [0, 1, 5], []⟩ laws_szNoteS_5_sv laws_szNoteS_5_so (List SNote) (Int × Int) laws_szNoteS_5_emb laws_szNoteS_5_prj (laws_szNoteS_5_b n)
noncomputable def laws_szNoteS_5_c : Code := ((loopCodes laws_szNoteS_code)[0]?).getD .skip
def laws_szNoteS_ann : Ann := fun id => bif Nat.beq id 3000005 then some ⟨[], [1], []⟩ else bif Nat.beq id 2000005 then some ⟨[], [4], []⟩ else none
def laws_szNoteS_Ls (n : Nat) : Nat → Option (LSpec T) := fun id => bif Nat.beq id 5 then some (laws_szNoteS_5_sp n) else none
theorem laws_szNoteS_5_le (n : Nat) : LoopEq (T := T) (Phi n 5) (laws_szNoteS_Ls n) laws_szNoteS_ann n laws_szNoteS_5_c (laws_szNoteS_5_sp n) := ⟨mkSpec_dec (fun y => rfl), fun c x => by kernel_rfl, fun K J c x => by kernel_rfl⟩
theorem laws_szNoteS_tie (n : Nat) (a0 : List SNote) (left1 : Int) : evF (T := T) (Phi n 5) (laws_szNoteS_Ls n) laws_szNoteS_ann n Try.f129 (sg 129) [vA T 78 a0, vA T 3 left1] laws_szNoteS_dec = laws_szNoteS n a0 left1 := by kernel_rfl
theorem laws_szNoteS_lo (n : Nat) : LoopsOk (T := T) (Phi n 5) (laws_szNoteS_Ls n) laws_szNoteS_ann n laws_szNoteS_code := loopsOk_all (cs := [laws_szNoteS_5_c]) (by kernel_rfl) ⟨⟨_, by kernel_rfl, laws_szNoteS_5_le n⟩, trivial⟩
theorem laws_szNoteS_ok (n : Nat) : EntOk Try.prog (ents n) (laws_szNoteS_ent n) := by
  intro hs ar y hg h
  replace h : laws_szNoteS_D n ar = some y := h
  unfold laws_szNoteS_D at h
  replace h := ocons_some h
  obtain ⟨a0, r0, rfl, h⟩ := h
  replace h := ocons_some h
  obtain ⟨a1, r1, rfl, h⟩ := h
  replace h := onil_some h
  obtain ⟨rfl, h⟩ := h
  obtain ⟨a0, qh0, h⟩ := obind_some h
  obtain ⟨left1, qh1, h⟩ := obind_some h
  rw [argV_eq ok qh0, argV_eq ok qh1]
  exact call_of (phiE_nat _ _) hs ok mixed Try.func129 (c := laws_szNoteS_code) (by kernel_rfl) (laws_szNoteS_lo n) (by kernel_rfl) (by kernel_rfl) (by kernel_rfl) laws_szNoteS_de ((laws_szNoteS_tie n a0 left1).trans h)
noncomputable def laws_szUpdate_code : Code := match Try.f49.body with | some c => c | none => .skip
def laws_szUpdate_ann : Ann := fun id => none
def laws_szUpdate_Ls (n : Nat) : Nat → Option (LSpec T) := fun id => none
theorem laws_szUpdate_tie (n : Nat) (a0 : SUpdate) (left1 : Int) : evF (T := T) (Phi n 6) (laws_szUpdate_Ls n) laws_szUpdate_ann n Try.f49 (sg 49) [vA T 80 a0, vA T 3 left1] laws_szUpdate_dec = laws_szUpdate n a0 left1 := by kernel_rfl
theorem laws_szUpdate_lo (n : Nat) : LoopsOk (T := T) (Phi n 6) (laws_szUpdate_Ls n) laws_szUpdate_ann n laws_szUpdate_code := loopsOk_all (cs := []) (by kernel_rfl) trivial
theorem laws_szUpdate_ok (n : Nat) : EntOk Try.prog (ents n) (laws_szUpdate_ent n) := by
  intro hs ar y hg h
  replace h : laws_szUpdate_D n ar = some y := h
  unfold laws_szUpdate_D at h
  replace h := ocons_some h
  obtain ⟨a0, r0, rfl, h⟩ := h
  replace h := ocons_some h
  obtain ⟨a1, r1, rfl, h⟩ := h
  replace h := onil_some h
  obtain ⟨rfl, h⟩ := h
  obtain ⟨a0, qh0, h⟩ := obind_some h
  obtain ⟨left1, qh1, h⟩ := obind_some h
  rw [argV_eq ok qh0, argV_eq ok qh1]
  exact call_of (phiE_nat _ _) hs ok mixed Try.func49 (c := laws_szUpdate_code) (by kernel_rfl) (laws_szUpdate_lo n) (by kernel_rfl) (by kernel_rfl) (by kernel_rfl) laws_szUpdate_de ((laws_szUpdate_tie n a0 left1).trans h)
noncomputable def laws_szUpdateS_code : Code := match Try.f56.body with | some c => c | none => .skip
def laws_szUpdateS_5_sv : List Sv := [.one (.arr 80), .one (.int .i64), .one (.int .i64)]
def laws_szUpdateS_5_so : List So := []
def laws_szUpdateS_5_emb (c : List SUpdate) (x : Int × Int) : EVs T laws_szUpdateS_5_sv × EOs T laws_szUpdateS_5_so := ((c, x.1, x.2, ()), ())
def laws_szUpdateS_5_prj (y : EVs T laws_szUpdateS_5_sv × EOs T laws_szUpdateS_5_so) : List SUpdate × (Int × Int) := ((y.1.1), (y.1.2.1, y.1.2.2.1))
def laws_szUpdateS_5_b (n : Nat) {R : Type} (K : Ex → Sm.St T → Option R) (c : List SUpdate) (x : Int × Int) (J : (Int × Int) → Option R) : Option R :=
  laws_szUpdateS_L5 n (fun (y0 : Int) => K (.exit 0) (stOf (T := T) [1] [] [.one (.int .i64)] [] (y0, ()) ())) (fun (y0 : Int) => K .ret (stOf (T := T) [4] [] [.one (.int .i64)] [] (y0, ()) ())) (fun z0 z1 => J (z0, z1)) c x.1 x.2
def laws_szUpdateS_5_sp (n : Nat) : LSpec T := mkSpec T ⟨[], [0, 1, 5], []⟩ laws_szUpdateS_5_sv laws_szUpdateS_5_so (List SUpdate) (Int × Int) laws_szUpdateS_5_emb laws_szUpdateS_5_prj (laws_szUpdateS_5_b n)
noncomputable def laws_szUpdateS_5_c : Code := ((loopCodes laws_szUpdateS_code)[0]?).getD .skip
def laws_szUpdateS_ann : Ann := fun id => bif Nat.beq id 3000005 then some ⟨[], [1], []⟩ else bif Nat.beq id 2000005 then some ⟨[], [4], []⟩ else none
def laws_szUpdateS_Ls (n : Nat) : Nat → Option (LSpec T) := fun id => bif Nat.beq id 5 then some (laws_szUpdateS_5_sp n) else none
theorem laws_szUpdateS_5_le (n : Nat) : LoopEq (T := T) (Phi n 7) (laws_szUpdateS_Ls n) laws_szUpdateS_ann n laws_szUpdateS_5_c (laws_szUpdateS_5_sp n) := ⟨mkSpec_dec (fun y => rfl), fun c x => by kernel_rfl, fun K J c x => by kernel_rfl⟩
theorem laws_szUpdateS_tie (n : Nat) (a0 : List SUpdate) (left1 : Int) : evF (T := T) (Phi n 7) (laws_szUpdateS_Ls n) laws_szUpdateS_ann n Try.f56 (sg 56) [vA T 90 a0, vA T 3 left1] laws_szUpdateS_dec = laws_szUpdateS n a0 left1 := by kernel_rfl
theorem laws_szUpdateS_lo (n : Nat) : LoopsOk (T := T) (Phi n 7) (laws_szUpdateS_Ls n) laws_szUpdateS_ann n laws_szUpdateS_code := loopsOk_all (cs := [laws_szUpdateS_5_c]) (by kernel_rfl) ⟨⟨_, by kernel_rfl, laws_szUpdateS_5_le n⟩, trivial⟩
theorem laws_szUpdateS_ok (n : Nat) : EntOk Try.prog (ents n) (laws_szUpdateS_ent n) := by
  intro hs ar y hg h
  replace h : laws_szUpdateS_D n ar = some y := h
  unfold laws_szUpdateS_D at h
  replace h := ocons_some h
  obtain ⟨a0, r0, rfl, h⟩ := h
  replace h := ocons_some h
  obtain ⟨a1, r1, rfl, h⟩ := h
  replace h := onil_some h
  obtain ⟨rfl, h⟩ := h
  obtain ⟨a0, qh0, h⟩ := obind_some h
  obtain ⟨left1, qh1, h⟩ := obind_some h
  rw [argV_eq ok qh0, argV_eq ok qh1]
  exact call_of (phiE_nat _ _) hs ok mixed Try.func56 (c := laws_szUpdateS_code) (by kernel_rfl) (laws_szUpdateS_lo n) (by kernel_rfl) (by kernel_rfl) (by kernel_rfl) laws_szUpdateS_de ((laws_szUpdateS_tie n a0 left1).trans h)
noncomputable def laws_toIntS_code : Code := match Try.f112.body with | some c => c | none => .skip
def laws_toIntS_3_sv : List Sv := [.one (.arr 3), .one (.own 3000000 3 false), .one (.int .i64)]
def laws_toIntS_3_so : List So := [.arr 3 false]
def laws_toIntS_3_emb (c : List Int) (x : Int × List Int) : EVs T laws_toIntS_3_sv × EOs T laws_toIntS_3_so := ((c, (), x.1, ()), (x.2, ()))
def laws_toIntS_3_prj (y : EVs T laws_toIntS_3_sv × EOs T laws_toIntS_3_so) : List Int × (Int × List Int) := ((y.1.1), (y.1.2.2.1, y.2.1))
def laws_toIntS_3_b (n : Nat) {R : Type} (K : Ex → Sm.St T → Option R) (c : List Int) (x : Int × List Int) (J : (Int × List Int) → Option R) : Option R :=
  laws_toIntS_L3 n (fun (y0 : List Int) => K (.exit 0) (stOf (T := T) [3] [3000000] [.one (.own 3000000 3 false)] [.arr 3 false] ((), ()) (y0, ()))) (fun z0 z1 => J (z0, z1)) c x.1 x.2
def laws_toIntS_3_sp (n : Nat) : LSpec T := mkSpec T ⟨[((.reg 3), 3000000, 3)], [0, 3, 4], [3000000]⟩ laws_toIntS_3_sv laws_toIntS_3_so (List Int) (Int × List Int) laws_toIntS_3_emb laws_toIntS_3_prj (laws_toIntS_3_b n)
noncomputable def laws_toIntS_3_c : Code := ((loopCodes laws_toIntS_code)[0]?).getD .skip
def laws_toIntS_ann : Ann := fun id => bif Nat.beq id 3000003 then some ⟨[((.reg 3), 3000000, 3)], [3], [3000000]⟩ else none
def laws_toIntS_Ls (n : Nat) : Nat → Option (LSpec T) := fun id => bif Nat.beq id 3 then some (laws_toIntS_3_sp n) else none
theorem laws_toIntS_3_le (n : Nat) : LoopEq (T := T) (Phi n 8) (laws_toIntS_Ls n) laws_toIntS_ann n laws_toIntS_3_c (laws_toIntS_3_sp n) := ⟨mkSpec_dec (fun y => rfl), fun c x => by kernel_rfl, fun K J c x => by kernel_rfl⟩
theorem laws_toIntS_tie (n : Nat) (a0 : List Int) : evF (T := T) (Phi n 8) (laws_toIntS_Ls n) laws_toIntS_ann n Try.f112 (sg 112) [vA T 55 a0] laws_toIntS_dec = laws_toIntS n a0 := by kernel_rfl
theorem laws_toIntS_lo (n : Nat) : LoopsOk (T := T) (Phi n 8) (laws_toIntS_Ls n) laws_toIntS_ann n laws_toIntS_code := loopsOk_all (cs := [laws_toIntS_3_c]) (by kernel_rfl) ⟨⟨_, by kernel_rfl, laws_toIntS_3_le n⟩, trivial⟩
theorem laws_toIntS_ok (n : Nat) : EntOk Try.prog (ents n) (laws_toIntS_ent n) := by
  intro hs ar y hg h
  replace h : laws_toIntS_D n ar = some y := h
  unfold laws_toIntS_D at h
  replace h := ocons_some h
  obtain ⟨a0, r0, rfl, h⟩ := h
  replace h := onil_some h
  obtain ⟨rfl, h⟩ := h
  obtain ⟨a0, qh0, h⟩ := obind_some h
  rw [argV_eq ok qh0]
  exact call_of (phiE_nat _ _) hs ok mixed Try.func112 (c := laws_toIntS_code) (by kernel_rfl) (laws_toIntS_lo n) (by kernel_rfl) (by kernel_rfl) (by kernel_rfl) laws_toIntS_de ((laws_toIntS_tie n a0).trans h)
noncomputable def laws_toFeature_code : Code := match Try.f192.body with | some c => c | none => .skip
def laws_toFeature_ann : Ann := fun id => none
def laws_toFeature_Ls (n : Nat) : Nat → Option (LSpec T) := fun id => none
theorem laws_toFeature_tie (n : Nat) (a0 : SFeature) : evF (T := T) (Phi n 9) (laws_toFeature_Ls n) laws_toFeature_ann n Try.f192 (sg 192) [vA T 251 a0] laws_toFeature_dec = laws_toFeature n a0 := by kernel_rfl
theorem laws_toFeature_lo (n : Nat) : LoopsOk (T := T) (Phi n 9) (laws_toFeature_Ls n) laws_toFeature_ann n laws_toFeature_code := loopsOk_all (cs := []) (by kernel_rfl) trivial
theorem laws_toFeature_ok (n : Nat) : EntOk Try.prog (ents n) (laws_toFeature_ent n) := by
  intro hs ar y hg h
  replace h : laws_toFeature_D n ar = some y := h
  unfold laws_toFeature_D at h
  replace h := ocons_some h
  obtain ⟨a0, r0, rfl, h⟩ := h
  replace h := onil_some h
  obtain ⟨rfl, h⟩ := h
  obtain ⟨a0, qh0, h⟩ := obind_some h
  rw [argV_eq ok qh0]
  exact call_of (phiE_nat _ _) hs ok mixed Try.func192 (c := laws_toFeature_code) (by kernel_rfl) (laws_toFeature_lo n) (by kernel_rfl) (by kernel_rfl) (by kernel_rfl) laws_toFeature_de ((laws_toFeature_tie n a0).trans h)
noncomputable def laws_toFeatureS_code : Code := match Try.f113.body with | some c => c | none => .skip
def laws_toFeatureS_3_sv : List Sv := [.one (.arr 251), .one (.own 3000000 181 false), .one (.int .i64)]
def laws_toFeatureS_3_so : List So := [.arr 181 false]
def laws_toFeatureS_3_emb (c : List SFeature) (x : Int × List SFeature) : EVs T laws_toFeatureS_3_sv × EOs T laws_toFeatureS_3_so := ((c, (), x.1, ()), (x.2, ()))
def laws_toFeatureS_3_prj (y : EVs T laws_toFeatureS_3_sv × EOs T laws_toFeatureS_3_so) : List SFeature × (Int × List SFeature) := ((y.1.1), (y.1.2.2.1, y.2.1))
def laws_toFeatureS_3_b (n : Nat) {R : Type} (K : Ex → Sm.St T → Option R) (c : List SFeature) (x : Int × List SFeature) (J : (Int × List SFeature) → Option R) : Option R :=
  laws_toFeatureS_L3 n (fun (y0 : List SFeature) => K (.exit 0) (stOf (T := T) [3] [3000000] [.one (.own 3000000 181 false)] [.arr 181 false] ((), ()) (y0, ()))) (fun z0 z1 => J (z0, z1)) c x.1 x.2
def laws_toFeatureS_3_sp (n : Nat) : LSpec T := mkSpec T ⟨[((.reg 3), 3000000, 181)], [0, 3, 4], [3000000]⟩ laws_toFeatureS_3_sv laws_toFeatureS_3_so (List SFeature) (Int × List SFeature) laws_toFeatureS_3_emb laws_toFeatureS_3_prj (laws_toFeatureS_3_b n)
noncomputable def laws_toFeatureS_3_c : Code := ((loopCodes laws_toFeatureS_code)[0]?).getD .skip
def laws_toFeatureS_ann : Ann := fun id => bif Nat.beq id 3000003 then some ⟨[((.reg 3), 3000000, 181)], [3], [3000000]⟩ else none
def laws_toFeatureS_Ls (n : Nat) : Nat → Option (LSpec T) := fun id => bif Nat.beq id 3 then some (laws_toFeatureS_3_sp n) else none
theorem laws_toFeatureS_3_le (n : Nat) : LoopEq (T := T) (Phi n 10) (laws_toFeatureS_Ls n) laws_toFeatureS_ann n laws_toFeatureS_3_c (laws_toFeatureS_3_sp n) := ⟨mkSpec_dec (fun y => rfl), fun c x => by kernel_rfl, fun K J c x => by kernel_rfl⟩
theorem laws_toFeatureS_tie (n : Nat) (a0 : List SFeature) : evF (T := T) (Phi n 10) (laws_toFeatureS_Ls n) laws_toFeatureS_ann n Try.f113 (sg 113) [vA T 56 a0] laws_toFeatureS_dec = laws_toFeatureS n a0 := by kernel_rfl
theorem laws_toFeatureS_lo (n : Nat) : LoopsOk (T := T) (Phi n 10) (laws_toFeatureS_Ls n) laws_toFeatureS_ann n laws_toFeatureS_code := loopsOk_all (cs := [laws_toFeatureS_3_c]) (by kernel_rfl) ⟨⟨_, by kernel_rfl, laws_toFeatureS_3_le n⟩, trivial⟩
theorem laws_toFeatureS_ok (n : Nat) : EntOk Try.prog (ents n) (laws_toFeatureS_ent n) := by
  intro hs ar y hg h
  replace h : laws_toFeatureS_D n ar = some y := h
  unfold laws_toFeatureS_D at h
  replace h := ocons_some h
  obtain ⟨a0, r0, rfl, h⟩ := h
  replace h := onil_some h
  obtain ⟨rfl, h⟩ := h
  obtain ⟨a0, qh0, h⟩ := obind_some h
  rw [argV_eq ok qh0]
  exact call_of (phiE_nat _ _) hs ok mixed Try.func113 (c := laws_toFeatureS_code) (by kernel_rfl) (laws_toFeatureS_lo n) (by kernel_rfl) (by kernel_rfl) (by kernel_rfl) laws_toFeatureS_de ((laws_toFeatureS_tie n a0).trans h)
noncomputable def laws_toChart_code : Code := match Try.f35.body with | some c => c | none => .skip
def laws_toChart_ann : Ann := fun id => none
def laws_toChart_Ls (n : Nat) : Nat → Option (LSpec T) := fun id => none
theorem laws_toChart_tie (n : Nat) (a0 : SChart) : evF (T := T) (Phi n 11) (laws_toChart_Ls n) laws_toChart_ann n Try.f35 (sg 35) [vA T 58 a0] laws_toChart_dec = laws_toChart n a0 := by kernel_rfl
theorem laws_toChart_lo (n : Nat) : LoopsOk (T := T) (Phi n 11) (laws_toChart_Ls n) laws_toChart_ann n laws_toChart_code := loopsOk_all (cs := []) (by kernel_rfl) trivial
theorem laws_toChart_ok (n : Nat) : EntOk Try.prog (ents n) (laws_toChart_ent n) := by
  intro hs ar y hg h
  replace h : laws_toChart_D n ar = some y := h
  unfold laws_toChart_D at h
  replace h := ocons_some h
  obtain ⟨a0, r0, rfl, h⟩ := h
  replace h := onil_some h
  obtain ⟨rfl, h⟩ := h
  obtain ⟨a0, qh0, h⟩ := obind_some h
  rw [argV_eq ok qh0]
  exact call_of (phiE_nat _ _) hs ok mixed Try.func35 (c := laws_toChart_code) (by kernel_rfl) (laws_toChart_lo n) (by kernel_rfl) (by kernel_rfl) (by kernel_rfl) laws_toChart_de ((laws_toChart_tie n a0).trans h)
noncomputable def laws_toNote_code : Code := match Try.f202.body with | some c => c | none => .skip
def laws_toNote_ann : Ann := fun id => none
def laws_toNote_Ls (n : Nat) : Nat → Option (LSpec T) := fun id => none
theorem laws_toNote_tie (n : Nat) (a0 : SNote) : evF (T := T) (Phi n 12) (laws_toNote_Ls n) laws_toNote_ann n Try.f202 (sg 202) [vA T 260 a0] laws_toNote_dec = laws_toNote n a0 := by kernel_rfl
theorem laws_toNote_lo (n : Nat) : LoopsOk (T := T) (Phi n 12) (laws_toNote_Ls n) laws_toNote_ann n laws_toNote_code := loopsOk_all (cs := []) (by kernel_rfl) trivial
theorem laws_toNote_ok (n : Nat) : EntOk Try.prog (ents n) (laws_toNote_ent n) := by
  intro hs ar y hg h
  replace h : laws_toNote_D n ar = some y := h
  unfold laws_toNote_D at h
  replace h := ocons_some h
  obtain ⟨a0, r0, rfl, h⟩ := h
  replace h := onil_some h
  obtain ⟨rfl, h⟩ := h
  obtain ⟨a0, qh0, h⟩ := obind_some h
  rw [argV_eq ok qh0]
  exact call_of (phiE_nat _ _) hs ok mixed Try.func202 (c := laws_toNote_code) (by kernel_rfl) (laws_toNote_lo n) (by kernel_rfl) (by kernel_rfl) (by kernel_rfl) laws_toNote_de ((laws_toNote_tie n a0).trans h)
noncomputable def laws_toNoteS_code : Code := match Try.f132.body with | some c => c | none => .skip
def laws_toNoteS_3_sv : List Sv := [.one (.arr 260), .one (.own 3000000 196 false), .one (.int .i64)]
def laws_toNoteS_3_so : List So := [.arr 196 false]
def laws_toNoteS_3_emb (c : List SNote) (x : Int × List SNote) : EVs T laws_toNoteS_3_sv × EOs T laws_toNoteS_3_so := ((c, (), x.1, ()), (x.2, ()))
def laws_toNoteS_3_prj (y : EVs T laws_toNoteS_3_sv × EOs T laws_toNoteS_3_so) : List SNote × (Int × List SNote) := ((y.1.1), (y.1.2.2.1, y.2.1))
def laws_toNoteS_3_b (n : Nat) {R : Type} (K : Ex → Sm.St T → Option R) (c : List SNote) (x : Int × List SNote) (J : (Int × List SNote) → Option R) : Option R :=
  laws_toNoteS_L3 n (fun (y0 : List SNote) => K (.exit 0) (stOf (T := T) [3] [3000000] [.one (.own 3000000 196 false)] [.arr 196 false] ((), ()) (y0, ()))) (fun z0 z1 => J (z0, z1)) c x.1 x.2
def laws_toNoteS_3_sp (n : Nat) : LSpec T := mkSpec T ⟨[((.reg 3), 3000000, 196)], [0, 3, 4], [3000000]⟩ laws_toNoteS_3_sv laws_toNoteS_3_so (List SNote) (Int × List SNote) laws_toNoteS_3_emb laws_toNoteS_3_prj (laws_toNoteS_3_b n)
noncomputable def laws_toNoteS_3_c : Code := ((loopCodes laws_toNoteS_code)[0]?).getD .skip
def laws_toNoteS_ann : Ann := fun id => bif Nat.beq id 3000003 then some ⟨[((.reg 3), 3000000, 196)], [3], [3000000]⟩ else none
def laws_toNoteS_Ls (n : Nat) : Nat → Option (LSpec T) := fun id => bif Nat.beq id 3 then some (laws_toNoteS_3_sp n) else none
theorem laws_toNoteS_3_le (n : Nat) : LoopEq (T := T) (Phi n 13) (laws_toNoteS_Ls n) laws_toNoteS_ann n laws_toNoteS_3_c (laws_toNoteS_3_sp n) := ⟨mkSpec_dec (fun y => rfl), fun c x => by kernel_rfl, fun K J c x => by kernel_rfl⟩
theorem laws_toNoteS_tie (n : Nat) (a0 : List SNote) : evF (T := T) (Phi n 13) (laws_toNoteS_Ls n) laws_toNoteS_ann n Try.f132 (sg 132) [vA T 78 a0] laws_toNoteS_dec = laws_toNoteS n a0 := by kernel_rfl
theorem laws_toNoteS_lo (n : Nat) : LoopsOk (T := T) (Phi n 13) (laws_toNoteS_Ls n) laws_toNoteS_ann n laws_toNoteS_code := loopsOk_all (cs := [laws_toNoteS_3_c]) (by kernel_rfl) ⟨⟨_, by kernel_rfl, laws_toNoteS_3_le n⟩, trivial⟩
theorem laws_toNoteS_ok (n : Nat) : EntOk Try.prog (ents n) (laws_toNoteS_ent n) := by
  intro hs ar y hg h
  replace h : laws_toNoteS_D n ar = some y := h
  unfold laws_toNoteS_D at h
  replace h := ocons_some h
  obtain ⟨a0, r0, rfl, h⟩ := h
  replace h := onil_some h
  obtain ⟨rfl, h⟩ := h
  obtain ⟨a0, qh0, h⟩ := obind_some h
  rw [argV_eq ok qh0]
  exact call_of (phiE_nat _ _) hs ok mixed Try.func132 (c := laws_toNoteS_code) (by kernel_rfl) (laws_toNoteS_lo n) (by kernel_rfl) (by kernel_rfl) (by kernel_rfl) laws_toNoteS_de ((laws_toNoteS_tie n a0).trans h)
noncomputable def laws_toUpdate_code : Code := match Try.f51.body with | some c => c | none => .skip
def laws_toUpdate_ann : Ann := fun id => none
def laws_toUpdate_Ls (n : Nat) : Nat → Option (LSpec T) := fun id => none
theorem laws_toUpdate_tie (n : Nat) (a0 : SUpdate) : evF (T := T) (Phi n 14) (laws_toUpdate_Ls n) laws_toUpdate_ann n Try.f51 (sg 51) [vA T 80 a0] laws_toUpdate_dec = laws_toUpdate n a0 := by kernel_rfl
theorem laws_toUpdate_lo (n : Nat) : LoopsOk (T := T) (Phi n 14) (laws_toUpdate_Ls n) laws_toUpdate_ann n laws_toUpdate_code := loopsOk_all (cs := []) (by kernel_rfl) trivial
theorem laws_toUpdate_ok (n : Nat) : EntOk Try.prog (ents n) (laws_toUpdate_ent n) := by
  intro hs ar y hg h
  replace h : laws_toUpdate_D n ar = some y := h
  unfold laws_toUpdate_D at h
  replace h := ocons_some h
  obtain ⟨a0, r0, rfl, h⟩ := h
  replace h := onil_some h
  obtain ⟨rfl, h⟩ := h
  obtain ⟨a0, qh0, h⟩ := obind_some h
  rw [argV_eq ok qh0]
  exact call_of (phiE_nat _ _) hs ok mixed Try.func51 (c := laws_toUpdate_code) (by kernel_rfl) (laws_toUpdate_lo n) (by kernel_rfl) (by kernel_rfl) (by kernel_rfl) laws_toUpdate_de ((laws_toUpdate_tie n a0).trans h)
noncomputable def laws_toUpdateS_code : Code := match Try.f58.body with | some c => c | none => .skip
def laws_toUpdateS_3_sv : List Sv := [.one (.arr 80), .one (.own 3000000 85 false), .one (.int .i64)]
def laws_toUpdateS_3_so : List So := [.arr 85 false]
def laws_toUpdateS_3_emb (c : List SUpdate) (x : Int × List SUpdate) : EVs T laws_toUpdateS_3_sv × EOs T laws_toUpdateS_3_so := ((c, (), x.1, ()), (x.2, ()))
def laws_toUpdateS_3_prj (y : EVs T laws_toUpdateS_3_sv × EOs T laws_toUpdateS_3_so) : List SUpdate × (Int × List SUpdate) := ((y.1.1), (y.1.2.2.1, y.2.1))
def laws_toUpdateS_3_b (n : Nat) {R : Type} (K : Ex → Sm.St T → Option R) (c : List SUpdate) (x : Int × List SUpdate) (J : (Int × List SUpdate) → Option R) : Option R :=
  laws_toUpdateS_L3 n (fun (y0 : List SUpdate) => K (.exit 0) (stOf (T := T) [3] [3000000] [.one (.own 3000000 85 false)] [.arr 85 false] ((), ()) (y0, ()))) (fun z0 z1 => J (z0, z1)) c x.1 x.2
def laws_toUpdateS_3_sp (n : Nat) : LSpec T := mkSpec T ⟨[((.reg 3), 3000000, 85)], [0, 3, 4], [3000000]⟩ laws_toUpdateS_3_sv laws_toUpdateS_3_so (List SUpdate) (Int × List SUpdate) laws_toUpdateS_3_emb laws_toUpdateS_3_prj (laws_toUpdateS_3_b n)
noncomputable def laws_toUpdateS_3_c : Code := ((loopCodes laws_toUpdateS_code)[0]?).getD .skip
def laws_toUpdateS_ann : Ann := fun id => bif Nat.beq id 3000003 then some ⟨[((.reg 3), 3000000, 85)], [3], [3000000]⟩ else none
def laws_toUpdateS_Ls (n : Nat) : Nat → Option (LSpec T) := fun id => bif Nat.beq id 3 then some (laws_toUpdateS_3_sp n) else none
theorem laws_toUpdateS_3_le (n : Nat) : LoopEq (T := T) (Phi n 15) (laws_toUpdateS_Ls n) laws_toUpdateS_ann n laws_toUpdateS_3_c (laws_toUpdateS_3_sp n) := ⟨mkSpec_dec (fun y => rfl), fun c x => by kernel_rfl, fun K J c x => by kernel_rfl⟩
theorem laws_toUpdateS_tie (n : Nat) (a0 : List SUpdate) : evF (T := T) (Phi n 15) (laws_toUpdateS_Ls n) laws_toUpdateS_ann n Try.f58 (sg 58) [vA T 90 a0] laws_toUpdateS_dec = laws_toUpdateS n a0 := by kernel_rfl
theorem laws_toUpdateS_lo (n : Nat) : LoopsOk (T := T) (Phi n 15) (laws_toUpdateS_Ls n) laws_toUpdateS_ann n laws_toUpdateS_code := loopsOk_all (cs := [laws_toUpdateS_3_c]) (by kernel_rfl) ⟨⟨_, by kernel_rfl, laws_toUpdateS_3_le n⟩, trivial⟩
theorem laws_toUpdateS_ok (n : Nat) : EntOk Try.prog (ents n) (laws_toUpdateS_ent n) := by
  intro hs ar y hg h
  replace h : laws_toUpdateS_D n ar = some y := h
  unfold laws_toUpdateS_D at h
  replace h := ocons_some h
  obtain ⟨a0, r0, rfl, h⟩ := h
  replace h := onil_some h
  obtain ⟨rfl, h⟩ := h
  obtain ⟨a0, qh0, h⟩ := obind_some h
  rw [argV_eq ok qh0]
  exact call_of (phiE_nat _ _) hs ok mixed Try.func58 (c := laws_toUpdateS_code) (by kernel_rfl) (laws_toUpdateS_lo n) (by kernel_rfl) (by kernel_rfl) (by kernel_rfl) laws_toUpdateS_de ((laws_toUpdateS_tie n a0).trans h)
noncomputable def spec_l6Copy_code : Code := match Try.f130.body with | some c => c | none => .skip
def spec_l6Copy_ann : Ann := fun id => none
def spec_l6Copy_Ls (n : Nat) : Nat → Option (LSpec T) := fun id => none
theorem spec_l6Copy_tie (n : Nat) (c0 : SChart) : evF (T := T) (Phi n 16) (spec_l6Copy_Ls n) spec_l6Copy_ann n Try.f130 (sg 130) [vA T 63 c0] spec_l6Copy_dec = spec_l6Copy n c0 := by kernel_rfl
theorem spec_l6Copy_lo (n : Nat) : LoopsOk (T := T) (Phi n 16) (spec_l6Copy_Ls n) spec_l6Copy_ann n spec_l6Copy_code := loopsOk_all (cs := []) (by kernel_rfl) trivial
theorem spec_l6Copy_ok (n : Nat) : EntOk Try.prog (ents n) (spec_l6Copy_ent n) := by
  intro hs ar y hg h
  replace h : spec_l6Copy_D n ar = some y := h
  unfold spec_l6Copy_D at h
  replace h := ocons_some h
  obtain ⟨a0, r0, rfl, h⟩ := h
  replace h := onil_some h
  obtain ⟨rfl, h⟩ := h
  obtain ⟨c0, qh0, h⟩ := obind_some h
  rw [argV_eq ok qh0]
  exact call_of (phiE_nat _ _) hs ok mixed Try.func130 (c := spec_l6Copy_code) (by kernel_rfl) (spec_l6Copy_lo n) (by kernel_rfl) (by kernel_rfl) (by kernel_rfl) spec_l6Copy_de ((spec_l6Copy_tie n c0).trans h)
noncomputable def spec_l1In_code : Code := match Try.f100.body with | some c => c | none => .skip
def spec_l1In_ann : Ann := fun id => none
def spec_l1In_Ls (n : Nat) : Nat → Option (LSpec T) := fun id => none
theorem spec_l1In_tie (n : Nat) (x0 : Int) (a1 : Int) (b2 : Int) : evF (T := T) (Phi n 17) (spec_l1In_Ls n) spec_l1In_ann n Try.f100 (sg 100) [vA T 3 x0, vA T 3 a1, vA T 3 b2] spec_l1In_dec = spec_l1In n x0 a1 b2 := by kernel_rfl
theorem spec_l1In_lo (n : Nat) : LoopsOk (T := T) (Phi n 17) (spec_l1In_Ls n) spec_l1In_ann n spec_l1In_code := loopsOk_all (cs := []) (by kernel_rfl) trivial
theorem spec_l1In_ok (n : Nat) : EntOk Try.prog (ents n) (spec_l1In_ent n) := by
  intro hs ar y hg h
  replace h : spec_l1In_D n ar = some y := h
  unfold spec_l1In_D at h
  replace h := ocons_some h
  obtain ⟨a0, r0, rfl, h⟩ := h
  replace h := ocons_some h
  obtain ⟨a1, r1, rfl, h⟩ := h
  replace h := ocons_some h
  obtain ⟨a2, r2, rfl, h⟩ := h
  replace h := onil_some h
  obtain ⟨rfl, h⟩ := h
  obtain ⟨x0, qh0, h⟩ := obind_some h
  obtain ⟨a1, qh1, h⟩ := obind_some h
  obtain ⟨b2, qh2, h⟩ := obind_some h
  rw [argV_eq ok qh0, argV_eq ok qh1, argV_eq ok qh2]
  exact call_of (phiE_nat _ _) hs ok mixed Try.func100 (c := spec_l1In_code) (by kernel_rfl) (spec_l1In_lo n) (by kernel_rfl) (by kernel_rfl) (by kernel_rfl) spec_l1In_de ((spec_l1In_tie n x0 a1 b2).trans h)
noncomputable def spec_l6Depth_code : Code := match Try.f117.body with | some c => c | none => .skip
def spec_l6Depth_ann : Ann := fun id => none
def spec_l6Depth_Ls (n : Nat) : Nat → Option (LSpec T) := fun id => none
theorem spec_l6Depth_tie (n : Nat) (d0 : Int) : evF (T := T) (Phi n 18) (spec_l6Depth_Ls n) spec_l6Depth_ann n Try.f117 (sg 117) [vA T 3 d0] spec_l6Depth_dec = spec_l6Depth n d0 := by kernel_rfl
theorem spec_l6Depth_lo (n : Nat) : LoopsOk (T := T) (Phi n 18) (spec_l6Depth_Ls n) spec_l6Depth_ann n spec_l6Depth_code := loopsOk_all (cs := []) (by kernel_rfl) trivial
theorem spec_l6Depth_ok (n : Nat) : EntOk Try.prog (ents n) (spec_l6Depth_ent n) := by
  intro hs ar y hg h
  replace h : spec_l6Depth_D n ar = some y := h
  unfold spec_l6Depth_D at h
  replace h := ocons_some h
  obtain ⟨a0, r0, rfl, h⟩ := h
  replace h := onil_some h
  obtain ⟨rfl, h⟩ := h
  obtain ⟨d0, qh0, h⟩ := obind_some h
  rw [argV_eq ok qh0]
  exact call_of (phiE_nat _ _) hs ok mixed Try.func117 (c := spec_l6Depth_code) (by kernel_rfl) (spec_l6Depth_lo n) (by kernel_rfl) (by kernel_rfl) (by kernel_rfl) spec_l6Depth_de ((spec_l6Depth_tie n d0).trans h)
noncomputable def spec_l6Place_code : Code := match Try.f127.body with | some c => c | none => .skip
def spec_l6Place_ann : Ann := fun id => none
def spec_l6Place_Ls (n : Nat) : Nat → Option (LSpec T) := fun id => none
theorem spec_l6Place_tie (n : Nat) (c0 : SChart) (x1 : Int) (y2 : Int) : evF (T := T) (Phi n 19) (spec_l6Place_Ls n) spec_l6Place_ann n Try.f127 (sg 127) [vA T 63 c0, vA T 3 x1, vA T 3 y2] spec_l6Place_dec = spec_l6Place n c0 x1 y2 := by kernel_rfl
theorem spec_l6Place_lo (n : Nat) : LoopsOk (T := T) (Phi n 19) (spec_l6Place_Ls n) spec_l6Place_ann n spec_l6Place_code := loopsOk_all (cs := []) (by kernel_rfl) trivial
theorem spec_l6Place_ok (n : Nat) : EntOk Try.prog (ents n) (spec_l6Place_ent n) := by
  intro hs ar y hg h
  replace h : spec_l6Place_D n ar = some y := h
  unfold spec_l6Place_D at h
  replace h := ocons_some h
  obtain ⟨a0, r0, rfl, h⟩ := h
  replace h := ocons_some h
  obtain ⟨a1, r1, rfl, h⟩ := h
  replace h := ocons_some h
  obtain ⟨a2, r2, rfl, h⟩ := h
  replace h := onil_some h
  obtain ⟨rfl, h⟩ := h
  obtain ⟨c0, qh0, h⟩ := obind_some h
  obtain ⟨x1, qh1, h⟩ := obind_some h
  obtain ⟨y2, qh2, h⟩ := obind_some h
  rw [argV_eq ok qh0, argV_eq ok qh1, argV_eq ok qh2]
  exact call_of (phiE_nat _ _) hs ok mixed Try.func127 (c := spec_l6Place_code) (by kernel_rfl) (spec_l6Place_lo n) (by kernel_rfl) (by kernel_rfl) (by kernel_rfl) spec_l6Place_de ((spec_l6Place_tie n c0 x1 y2).trans h)
noncomputable def spec_l6Feature_code : Code := match Try.f118.body with | some c => c | none => .skip
def spec_l6Feature_ann : Ann := fun id => none
def spec_l6Feature_Ls (n : Nat) : Nat → Option (LSpec T) := fun id => none
theorem spec_l6Feature_tie (n : Nat) (c0 : SChart) (f1 : SFeature) : evF (T := T) (Phi n 20) (spec_l6Feature_Ls n) spec_l6Feature_ann n Try.f118 (sg 118) [vA T 63 c0, vA T 181 f1] spec_l6Feature_dec = spec_l6Feature n c0 f1 := by kernel_rfl
theorem spec_l6Feature_lo (n : Nat) : LoopsOk (T := T) (Phi n 20) (spec_l6Feature_Ls n) spec_l6Feature_ann n spec_l6Feature_code := loopsOk_all (cs := []) (by kernel_rfl) trivial
theorem spec_l6Feature_ok (n : Nat) : EntOk Try.prog (ents n) (spec_l6Feature_ent n) := by
  intro hs ar y hg h
  replace h : spec_l6Feature_D n ar = some y := h
  unfold spec_l6Feature_D at h
  replace h := ocons_some h
  obtain ⟨a0, r0, rfl, h⟩ := h
  replace h := ocons_some h
  obtain ⟨a1, r1, rfl, h⟩ := h
  replace h := onil_some h
  obtain ⟨rfl, h⟩ := h
  obtain ⟨c0, qh0, h⟩ := obind_some h
  obtain ⟨f1, qh1, h⟩ := obind_some h
  rw [argV_eq ok qh0, argV_eq ok qh1]
  exact call_of (phiE_nat _ _) hs ok mixed Try.func118 (c := spec_l6Feature_code) (by kernel_rfl) (spec_l6Feature_lo n) (by kernel_rfl) (by kernel_rfl) (by kernel_rfl) spec_l6Feature_de ((spec_l6Feature_tie n c0 f1).trans h)
noncomputable def spec_ChartOk_code : Code := match Try.f43.body with | some c => c | none => .skip
def spec_ChartOk_4_sv : List Sv := [.one (.ptr 8 0 0), .one (.int .i64)]
def spec_ChartOk_4_so : List So := [.var [.int .i64, .int .i64, .arr 3, .arr 181, .int .i64]]
def spec_ChartOk_4_emb (c : SChart) (x : Int) : EVs T spec_ChartOk_4_sv × EOs T spec_ChartOk_4_so := (((), x, ()), ((c.Wide, c.High, c.Depths, c.Features, c.Edition, ()), ()))
def spec_ChartOk_4_prj (y : EVs T spec_ChartOk_4_sv × EOs T spec_ChartOk_4_so) : SChart × Int := ((((⟨y.2.1.1, y.2.1.2.1, y.2.1.2.2.1, y.2.1.2.2.2.1, y.2.1.2.2.2.2.1⟩ : SChart) : SChart)), (y.1.2.1))
def spec_ChartOk_4_b (n : Nat) {R : Type} (K : Ex → Sm.St T → Option R) (c : SChart) (x : Int) (J : Int → Option R) : Option R :=
  spec_ChartOk_L4 n (K (.exit 0) (stOf (T := T) [1] [8] [.one (.ptr 8 0 0)] [.var [.int .i64, .int .i64, .arr 3, .arr 181, .int .i64]] ((), ()) ((c.Wide, c.High, c.Depths, c.Features, c.Edition, ()), ()))) (fun (y0 : Bool) => K .ret (stOf (T := T) [2] [] [.one (.bool)] [] (y0, ()) ())) J x c
def spec_ChartOk_4_sp (n : Nat) : LSpec T := mkSpec T ⟨[], [1, 3], [8]⟩ spec_ChartOk_4_sv spec_ChartOk_4_so (SChart) (Int) spec_ChartOk_4_emb spec_ChartOk_4_prj (spec_ChartOk_4_b n)
noncomputable def spec_ChartOk_4_c : Code := ((loopCodes spec_ChartOk_code)[0]?).getD .skip
def spec_ChartOk_9_sv : List Sv := [.one (.ptr 8 0 0), .one (.int .i64)]
def spec_ChartOk_9_so : List So := [.var [.int .i64, .int .i64, .arr 3, .arr 181, .int .i64]]
def spec_ChartOk_9_emb (c : SChart) (x : Int) : EVs T spec_ChartOk_9_sv × EOs T spec_ChartOk_9_so := (((), x, ()), ((c.Wide, c.High, c.Depths, c.Features, c.Edition, ()), ()))
def spec_ChartOk_9_prj (y : EVs T spec_ChartOk_9_sv × EOs T spec_ChartOk_9_so) : SChart × Int := ((((⟨y.2.1.1, y.2.1.2.1, y.2.1.2.2.1, y.2.1.2.2.2.1, y.2.1.2.2.2.2.1⟩ : SChart) : SChart)), (y.1.2.1))
def spec_ChartOk_9_b (n : Nat) {R : Type} (K : Ex → Sm.St T → Option R) (c : SChart) (x : Int) (J : Int → Option R) : Option R :=
  spec_ChartOk_L9 n (K (.exit 2) (stOf (T := T) [] [] [] [] () ())) (fun (y0 : Bool) => K .ret (stOf (T := T) [2] [] [.one (.bool)] [] (y0, ()) ())) J x c
def spec_ChartOk_9_sp (n : Nat) : LSpec T := mkSpec T ⟨[], [1, 4], [8]⟩ spec_ChartOk_9_sv spec_ChartOk_9_so (SChart) (Int) spec_ChartOk_9_emb spec_ChartOk_9_prj (spec_ChartOk_9_b n)
noncomputable def spec_ChartOk_9_c : Code := ((loopCodes spec_ChartOk_code)[1]?).getD .skip
def spec_ChartOk_ann : Ann := fun id => bif Nat.beq id 3000004 then some ⟨[], [1], [8]⟩ else bif Nat.beq id 2000004 then some ⟨[], [2], []⟩ else bif Nat.beq id 5000009 then some ⟨[], [], []⟩ else bif Nat.beq id 2000009 then some ⟨[], [2], []⟩ else none
def spec_ChartOk_Ls (n : Nat) : Nat → Option (LSpec T) := fun id => bif Nat.beq id 4 then some (spec_ChartOk_4_sp n) else bif Nat.beq id 9 then some (spec_ChartOk_9_sp n) else none
theorem spec_ChartOk_4_le (n : Nat) : LoopEq (T := T) (Phi n 21) (spec_ChartOk_Ls n) spec_ChartOk_ann n spec_ChartOk_4_c (spec_ChartOk_4_sp n) := ⟨mkSpec_dec (fun y => rfl), fun c x => by kernel_rfl, fun K J c x => by kernel_rfl⟩
theorem spec_ChartOk_9_le (n : Nat) : LoopEq (T := T) (Phi n 21) (spec_ChartOk_Ls n) spec_ChartOk_ann n spec_ChartOk_9_c (spec_ChartOk_9_sp n) := ⟨mkSpec_dec (fun y => rfl), fun c x => by kernel_rfl, fun K J c x => by kernel_rfl⟩
theorem spec_ChartOk_tie (n : Nat) (c0 : SChart) : evF (T := T) (Phi n 21) (spec_ChartOk_Ls n) spec_ChartOk_ann n Try.f43 (sg 43) [vA T 63 c0] spec_ChartOk_dec = spec_ChartOk n c0 := by kernel_rfl
theorem spec_ChartOk_lo (n : Nat) : LoopsOk (T := T) (Phi n 21) (spec_ChartOk_Ls n) spec_ChartOk_ann n spec_ChartOk_code := loopsOk_all (cs := [spec_ChartOk_4_c, spec_ChartOk_9_c]) (by kernel_rfl) ⟨⟨_, by kernel_rfl, spec_ChartOk_4_le n⟩, ⟨_, by kernel_rfl, spec_ChartOk_9_le n⟩, trivial⟩
theorem spec_ChartOk_ok (n : Nat) : EntOk Try.prog (ents n) (spec_ChartOk_ent n) := by
  intro hs ar y hg h
  replace h : spec_ChartOk_D n ar = some y := h
  unfold spec_ChartOk_D at h
  replace h := ocons_some h
  obtain ⟨a0, r0, rfl, h⟩ := h
  replace h := onil_some h
  obtain ⟨rfl, h⟩ := h
  obtain ⟨c0, qh0, h⟩ := obind_some h
  rw [argV_eq ok qh0]
  exact call_of (phiE_nat _ _) hs ok mixed Try.func43 (c := spec_ChartOk_code) (by kernel_rfl) (spec_ChartOk_lo n) (by kernel_rfl) (by kernel_rfl) (by kernel_rfl) spec_ChartOk_de ((spec_ChartOk_tie n c0).trans h)
noncomputable def spec_l6Find_code : Code := match Try.f201.body with | some c => c | none => .skip
def spec_l6Find_2_sv : List Sv := [.one (.int .i64), .one (.ptr 16 0 0), .one (.int .i64)]
def spec_l6Find_2_so : List So := [.var [.int .i64, .int .i64, .arr 3, .arr 181, .int .i64]]
def spec_l6Find_2_emb (c : Int × SChart) (x : Int) : EVs T spec_l6Find_2_sv × EOs T spec_l6Find_2_so := ((c.1, (), x, ()), ((c.2.Wide, c.2.High, c.2.Depths, c.2.Features, c.2.Edition, ()), ()))
def spec_l6Find_2_prj (y : EVs T spec_l6Find_2_sv × EOs T spec_l6Find_2_so) : (Int × SChart) × Int := ((y.1.1, ((⟨y.2.1.1, y.2.1.2.1, y.2.1.2.2.1, y.2.1.2.2.2.1, y.2.1.2.2.2.2.1⟩ : SChart) : SChart)), (y.1.2.2.1))
def spec_l6Find_2_b (n : Nat) {R : Type} (K : Ex → Sm.St T → Option R) (c : Int × SChart) (x : Int) (J : Int → Option R) : Option R :=
  spec_l6Find_L2 n (K (.exit 0) (stOf (T := T) [] [] [] [] () ())) (fun (y0 : Int) => K .ret (stOf (T := T) [4] [] [.one (.int .i64)] [] (y0, ()) ())) J c.1 x c.2
def spec_l6Find_2_sp (n : Nat) : LSpec T := mkSpec T ⟨[], [1, 2, 5], [16]⟩ spec_l6Find_2_sv spec_l6Find_2_so (Int × SChart) (Int) spec_l6Find_2_emb spec_l6Find_2_prj (spec_l6Find_2_b n)
noncomputable def spec_l6Find_2_c : Code := ((loopCodes spec_l6Find_code)[0]?).getD .skip
def spec_l6Find_ann : Ann := fun id => bif Nat.beq id 3000002 then some ⟨[], [], []⟩ else bif Nat.beq id 2000002 then some ⟨[], [4], []⟩ else none
def spec_l6Find_Ls (n : Nat) : Nat → Option (LSpec T) := fun id => bif Nat.beq id 2 then some (spec_l6Find_2_sp n) else none
theorem spec_l6Find_2_le (n : Nat) : LoopEq (T := T) (Phi n 22) (spec_l6Find_Ls n) spec_l6Find_ann n spec_l6Find_2_c (spec_l6Find_2_sp n) := ⟨mkSpec_dec (fun y => rfl), fun c x => by kernel_rfl, fun K J c x => by kernel_rfl⟩
theorem spec_l6Find_tie (n : Nat) (c0 : SChart) (id1 : Int) : evF (T := T) (Phi n 22) (spec_l6Find_Ls n) spec_l6Find_ann n Try.f201 (sg 201) [vA T 63 c0, vA T 3 id1] spec_l6Find_dec = spec_l6Find n c0 id1 := by kernel_rfl
theorem spec_l6Find_lo (n : Nat) : LoopsOk (T := T) (Phi n 22) (spec_l6Find_Ls n) spec_l6Find_ann n spec_l6Find_code := loopsOk_all (cs := [spec_l6Find_2_c]) (by kernel_rfl) ⟨⟨_, by kernel_rfl, spec_l6Find_2_le n⟩, trivial⟩
theorem spec_l6Find_ok (n : Nat) : EntOk Try.prog (ents n) (spec_l6Find_ent n) := by
  intro hs ar y hg h
  replace h : spec_l6Find_D n ar = some y := h
  unfold spec_l6Find_D at h
  replace h := ocons_some h
  obtain ⟨a0, r0, rfl, h⟩ := h
  replace h := ocons_some h
  obtain ⟨a1, r1, rfl, h⟩ := h
  replace h := onil_some h
  obtain ⟨rfl, h⟩ := h
  obtain ⟨c0, qh0, h⟩ := obind_some h
  obtain ⟨id1, qh1, h⟩ := obind_some h
  rw [argV_eq ok qh0, argV_eq ok qh1]
  exact call_of (phiE_nat _ _) hs ok mixed Try.func201 (c := spec_l6Find_code) (by kernel_rfl) (spec_l6Find_lo n) (by kernel_rfl) (by kernel_rfl) (by kernel_rfl) spec_l6Find_de ((spec_l6Find_tie n c0 id1).trans h)
noncomputable def spec_l6Note_code : Code := match Try.f131.body with | some c => c | none => .skip
def spec_l6Note_8_sv : List Sv := [.one (.ptr 16 0 0), .one (.ptr 24 0 0), .one (.ptr 32 0 0), .one (.ptr 56 0 0), .one (.int .i64)]
def spec_l6Note_8_so : List So := [.var [.int .i64, .int .i64, .own 3000000 3 false, .own 3000001 181 false, .int .i64], .arr 3 false, .arr 181 false, .var [.int .i64, .int .i64, .int .i64, .int .i64, .int .i64, .str, .int .i64], .var [.int .i64, .int .i64, .own 3000002 3 false, .own 3000003 181 false, .int .i64], .arr 3 false, .arr 181 false, .var [.int .i64, .int .i64, .int .i64, .int .i64, .str]]
def spec_l6Note_8_emb (c : Int × Int × Int × List Int × List SFeature × SNote × Int × Int × Int × List Int × List SFeature × SFeature) (x : Int) : EVs T spec_l6Note_8_sv × EOs T spec_l6Note_8_so := (((), (), (), (), x, ()), ((c.1, c.2.1, (), (), c.2.2.1, ()), c.2.2.2.1, c.2.2.2.2.1, (c.2.2.2.2.2.1.Kind, c.2.2.2.2.2.1.Id, c.2.2.2.2.2.1.X, c.2.2.2.2.2.1.Y, c.2.2.2.2.2.1.Depth, c.2.2.2.2.2.1.Text, c.2.2.2.2.2.1.Sort_, ()), (c.2.2.2.2.2.2.1, c.2.2.2.2.2.2.2.1, (), (), c.2.2.2.2.2.2.2.2.1, ()), c.2.2.2.2.2.2.2.2.2.1, c.2.2.2.2.2.2.2.2.2.2.1, (c.2.2.2.2.2.2.2.2.2.2.2.Id, c.2.2.2.2.2.2.2.2.2.2.2.Kind, c.2.2.2.2.2.2.2.2.2.2.2.X, c.2.2.2.2.2.2.2.2.2.2.2.Y, c.2.2.2.2.2.2.2.2.2.2.2.Text, ()), ()))
def spec_l6Note_8_prj (y : EVs T spec_l6Note_8_sv × EOs T spec_l6Note_8_so) : (Int × Int × Int × List Int × List SFeature × SNote × Int × Int × Int × List Int × List SFeature × SFeature) × Int := ((y.2.1.1, y.2.1.2.1, y.2.1.2.2.2.2.1, y.2.2.1, y.2.2.2.1, ((⟨y.2.2.2.2.1.1, y.2.2.2.2.1.2.1, y.2.2.2.2.1.2.2.1, y.2.2.2.2.1.2.2.2.1, y.2.2.2.2.1.2.2.2.2.1, y.2.2.2.2.1.2.2.2.2.2.1, y.2.2.2.2.1.2.2.2.2.2.2.1⟩ : SNote) : SNote), y.2.2.2.2.2.1.1, y.2.2.2.2.2.1.2.1, y.2.2.2.2.2.1.2.2.2.2.1, y.2.2.2.2.2.2.1, y.2.2.2.2.2.2.2.1, ((⟨y.2.2.2.2.2.2.2.2.1.1, y.2.2.2.2.2.2.2.2.1.2.1, y.2.2.2.2.2.2.2.2.1.2.2.1, y.2.2.2.2.2.2.2.2.1.2.2.2.1, y.2.2.2.2.2.2.2.2.1.2.2.2.2.1⟩ : SFeature) : SFeature)), (y.1.2.2.2.2.1))
def spec_l6Note_8_b (n : Nat) {R : Type} (K : Ex → Sm.St T → Option R) (c : Int × Int × Int × List Int × List SFeature × SNote × Int × Int × Int × List Int × List SFeature × SFeature) (x : Int) (J : Int → Option R) : Option R :=
  spec_l6Note_L8 n (fun (y0 : Int) => K (.exit 1) (stOf (T := T) [2, 4, 7, 8] [16, 3000000, 3000001, 32, 3000002, 3000003, 56] [.one (.ptr 16 0 0), .one (.ptr 32 0 0), .one (.ptr 56 0 0), .one (.int .i64)] [.var [.int .i64, .int .i64, .own 3000000 3 false, .own 3000001 181 false, .int .i64], .arr 3 false, .arr 181 false, .var [.int .i64, .int .i64, .own 3000002 3 false, .own 3000003 181 false, .int .i64], .arr 3 false, .arr 181 false, .var [.int .i64, .int .i64, .int .i64, .int .i64, .str]] ((), (), (), y0, ()) ((c.1, c.2.1, (), (), c.2.2.1, ()), c.2.2.2.1, c.2.2.2.2.1, (c.2.2.2.2.2.2.1, c.2.2.2.2.2.2.2.1, (), (), c.2.2.2.2.2.2.2.2.1, ()), c.2.2.2.2.2.2.2.2.2.1, c.2.2.2.2.2.2.2.2.2.2.1, (c.2.2.2.2.2.2.2.2.2.2.2.Id, c.2.2.2.2.2.2.2.2.2.2.2.Kind, c.2.2.2.2.2.2.2.2.2.2.2.X, c.2.2.2.2.2.2.2.2.2.2.2.Y, c.2.2.2.2.2.2.2.2.2.2.2.Text, ()), ()))) J x c.1 c.2.1 c.2.2.1 c.2.2.2.1 c.2.2.2.2.1 c.2.2.2.2.2.1 c.2.2.2.2.2.2.1 c.2.2.2.2.2.2.2.1 c.2.2.2.2.2.2.2.2.1 c.2.2.2.2.2.2.2.2.2.1 c.2.2.2.2.2.2.2.2.2.2.1 c.2.2.2.2.2.2.2.2.2.2.2
def spec_l6Note_8_sp (n : Nat) : LSpec T := mkSpec T ⟨[((.cell 16 2), 3000000, 3), ((.cell 16 3), 3000001, 181), ((.cell 32 2), 3000002, 3), ((.cell 32 3), 3000003, 181)], [2, 3, 4, 7, 8], [16, 3000000, 3000001, 24, 32, 3000002, 3000003, 56]⟩ spec_l6Note_8_sv spec_l6Note_8_so (Int × Int × Int × List Int × List SFeature × SNote × Int × Int × Int × List Int × List SFeature × SFeature) (Int) spec_l6Note_8_emb spec_l6Note_8_prj (spec_l6Note_8_b n)
noncomputable def spec_l6Note_8_c : Code := ((loopCodes spec_l6Note_code)[0]?).getD .skip
def spec_l6Note_ann : Ann := fun id => bif Nat.beq id 4000008 then some ⟨[((.cell 16 2), 3000000, 3), ((.cell 16 3), 3000001, 181), ((.cell 32 2), 3000002, 3), ((.cell 32 3), 3000003, 181)], [2, 4, 7, 8], [16, 3000000, 3000001, 32, 3000002, 3000003, 56]⟩ else none
def spec_l6Note_Ls (n : Nat) : Nat → Option (LSpec T) := fun id => bif Nat.beq id 8 then some (spec_l6Note_8_sp n) else none
theorem spec_l6Note_8_le (n : Nat) : LoopEq (T := T) (Phi n 23) (spec_l6Note_Ls n) spec_l6Note_ann n spec_l6Note_8_c (spec_l6Note_8_sp n) := ⟨mkSpec_dec (fun y => rfl), fun c x => by kernel_rfl, fun K J c x => by kernel_rfl⟩
theorem spec_l6Note_tie (n : Nat) (c0 : SChart) (n1 : SNote) : evF (T := T) (Phi n 23) (spec_l6Note_Ls n) spec_l6Note_ann n Try.f131 (sg 131) [vA T 63 c0, vA T 196 n1] spec_l6Note_dec = spec_l6Note n c0 n1 := by kernel_rfl
theorem spec_l6Note_lo (n : Nat) : LoopsOk (T := T) (Phi n 23) (spec_l6Note_Ls n) spec_l6Note_ann n spec_l6Note_code := loopsOk_all (cs := [spec_l6Note_8_c]) (by kernel_rfl) ⟨⟨_, by kernel_rfl, spec_l6Note_8_le n⟩, trivial⟩
theorem spec_l6Note_ok (n : Nat) : EntOk Try.prog (ents n) (spec_l6Note_ent n) := by
  intro hs ar y hg h
  replace h : spec_l6Note_D n ar = some y := h
  unfold spec_l6Note_D at h
  replace h := ocons_some h
  obtain ⟨a0, r0, rfl, h⟩ := h
  replace h := ocons_some h
  obtain ⟨a1, r1, rfl, h⟩ := h
  replace h := onil_some h
  obtain ⟨rfl, h⟩ := h
  obtain ⟨c0, qh0, h⟩ := obind_some h
  obtain ⟨n1, qh1, h⟩ := obind_some h
  rw [argV_eq ok qh0, argV_eq ok qh1]
  exact call_of (phiE_nat _ _) hs ok mixed Try.func131 (c := spec_l6Note_code) (by kernel_rfl) (spec_l6Note_lo n) (by kernel_rfl) (by kernel_rfl) (by kernel_rfl) spec_l6Note_de ((spec_l6Note_tie n c0 n1).trans h)
noncomputable def spec_Apply6_code : Code := match Try.f50.body with | some c => c | none => .skip
def spec_Apply6_11_sv : List Sv := [.one (.ptr 16 0 0), .one (.ptr 24 0 0), .one (.ptr 32 0 0), .one (.ptr 48 0 0), .one (.bool), .one (.int .i64)]
def spec_Apply6_11_so : List So := [.var [.int .i64, .int .i64, .own 3000000 3 false, .own 3000001 181 false, .int .i64], .arr 3 false, .arr 181 false, .var [.int .i64, .arr 196], .var [.int .i64, .int .i64, .own 3000002 3 false, .own 3000003 181 false, .int .i64], .arr 3 false, .arr 181 false, .var [.int .i64, .int .i64, .own 3000004 3 false, .own 3000005 181 false, .int .i64], .arr 3 false, .arr 181 false]
def spec_Apply6_11_emb (c : Int × Int × Int × List Int × List SFeature × SUpdate × Int × Int × Int × List Int × List SFeature) (x : Bool × Int × Int × Int × Int × List Int × List SFeature) : EVs T spec_Apply6_11_sv × EOs T spec_Apply6_11_so := (((), (), (), (), x.1, x.2.1, ()), ((c.1, c.2.1, (), (), c.2.2.1, ()), c.2.2.2.1, c.2.2.2.2.1, (c.2.2.2.2.2.1.Edition, c.2.2.2.2.2.1.Notes, ()), (c.2.2.2.2.2.2.1, c.2.2.2.2.2.2.2.1, (), (), c.2.2.2.2.2.2.2.2.1, ()), c.2.2.2.2.2.2.2.2.2.1, c.2.2.2.2.2.2.2.2.2.2, (x.2.2.1, x.2.2.2.1, (), (), x.2.2.2.2.1, ()), x.2.2.2.2.2.1, x.2.2.2.2.2.2, ()))
def spec_Apply6_11_prj (y : EVs T spec_Apply6_11_sv × EOs T spec_Apply6_11_so) : (Int × Int × Int × List Int × List SFeature × SUpdate × Int × Int × Int × List Int × List SFeature) × (Bool × Int × Int × Int × Int × List Int × List SFeature) := ((y.2.1.1, y.2.1.2.1, y.2.1.2.2.2.2.1, y.2.2.1, y.2.2.2.1, ((⟨y.2.2.2.2.1.1, y.2.2.2.2.1.2.1⟩ : SUpdate) : SUpdate), y.2.2.2.2.2.1.1, y.2.2.2.2.2.1.2.1, y.2.2.2.2.2.1.2.2.2.2.1, y.2.2.2.2.2.2.1, y.2.2.2.2.2.2.2.1), (y.1.2.2.2.2.1, y.1.2.2.2.2.2.1, y.2.2.2.2.2.2.2.2.1.1, y.2.2.2.2.2.2.2.2.1.2.1, y.2.2.2.2.2.2.2.2.1.2.2.2.2.1, y.2.2.2.2.2.2.2.2.2.1, y.2.2.2.2.2.2.2.2.2.2.1))
def spec_Apply6_11_b (n : Nat) {R : Type} (K : Ex → Sm.St T → Option R) (c : Int × Int × Int × List Int × List SFeature × SUpdate × Int × Int × Int × List Int × List SFeature) (x : Bool × Int × Int × Int × Int × List Int × List SFeature) (J : (Bool × Int × Int × Int × Int × List Int × List SFeature) → Option R) : Option R :=
  spec_Apply6_L11 n (fun (y0 : Bool) (y12 : Int) (y13 : Int) (y14 : Int) (y15 : List Int) (y16 : List SFeature) => K (.exit 1) (stOf (T := T) [2, 3, 4, 6, 7] [16, 3000000, 3000001, 24, 32, 3000002, 3000003, 48, 3000004, 3000005] [.one (.ptr 16 0 0), .one (.ptr 24 0 0), .one (.ptr 32 0 0), .one (.ptr 48 0 0), .one (.bool)] [.var [.int .i64, .int .i64, .own 3000000 3 false, .own 3000001 181 false, .int .i64], .arr 3 false, .arr 181 false, .var [.int .i64, .arr 196], .var [.int .i64, .int .i64, .own 3000002 3 false, .own 3000003 181 false, .int .i64], .arr 3 false, .arr 181 false, .var [.int .i64, .int .i64, .own 3000004 3 false, .own 3000005 181 false, .int .i64], .arr 3 false, .arr 181 false] ((), (), (), (), y0, ()) ((c.1, c.2.1, (), (), c.2.2.1, ()), c.2.2.2.1, c.2.2.2.2.1, (c.2.2.2.2.2.1.Edition, c.2.2.2.2.2.1.Notes, ()), (c.2.2.2.2.2.2.1, c.2.2.2.2.2.2.2.1, (), (), c.2.2.2.2.2.2.2.2.1, ()), c.2.2.2.2.2.2.2.2.2.1, c.2.2.2.2.2.2.2.2.2.2, (y12, y13, (), (), y14, ()), y15, y16, ()))) (fun z0 z1 z2 z3 z4 z5 z6 => J (z0, z1, z2, z3, z4, z5, z6)) x.1 x.2.1 c.1 c.2.1 c.2.2.1 c.2.2.2.1 c.2.2.2.2.1 c.2.2.2.2.2.1 c.2.2.2.2.2.2.1 c.2.2.2.2.2.2.2.1 c.2.2.2.2.2.2.2.2.1 c.2.2.2.2.2.2.2.2.2.1 c.2.2.2.2.2.2.2.2.2.2 x.2.2.1 x.2.2.2.1 x.2.2.2.2.1 x.2.2.2.2.2.1 x.2.2.2.2.2.2
def spec_Apply6_11_sp (n : Nat) : LSpec T := mkSpec T ⟨[((.cell 16 2), 3000000, 3), ((.cell 16 3), 3000001, 181), ((.cell 32 2), 3000002, 3), ((.cell 32 3), 3000003, 181), ((.cell 48 2), 3000004, 3), ((.cell 48 3), 3000005, 181)], [2, 3, 4, 6, 7, 8], [16, 3000000, 3000001, 24, 32, 3000002, 3000003, 48, 3000004, 3000005]⟩ spec_Apply6_11_sv spec_Apply6_11_so (Int × Int × Int × List Int × List SFeature × SUpdate × Int × Int × Int × List Int × List SFeature) (Bool × Int × Int × Int × Int × List Int × List SFeature) spec_Apply6_11_emb spec_Apply6_11_prj (spec_Apply6_11_b n)
noncomputable def spec_Apply6_11_c : Code := ((loopCodes spec_Apply6_code)[0]?).getD .skip
def spec_Apply6_ann : Ann := fun id => bif Nat.beq id 4000011 then some ⟨[((.cell 16 2), 3000000, 3), ((.cell 16 3), 3000001, 181), ((.cell 32 2), 3000002, 3), ((.cell 32 3), 3000003, 181), ((.cell 48 2), 3000004, 3), ((.cell 48 3), 3000005, 181)], [2, 3, 4, 6, 7], [16, 3000000, 3000001, 24, 32, 3000002, 3000003, 48, 3000004, 3000005]⟩ else none
def spec_Apply6_Ls (n : Nat) : Nat → Option (LSpec T) := fun id => bif Nat.beq id 11 then some (spec_Apply6_11_sp n) else none
theorem spec_Apply6_11_le (n : Nat) : LoopEq (T := T) (Phi n 24) (spec_Apply6_Ls n) spec_Apply6_ann n spec_Apply6_11_c (spec_Apply6_11_sp n) := ⟨mkSpec_dec (fun y => rfl), fun c x => by kernel_rfl, fun K J c x => by kernel_rfl⟩
theorem spec_Apply6_tie (n : Nat) (c0 : SChart) (u1 : SUpdate) : evF (T := T) (Phi n 24) (spec_Apply6_Ls n) spec_Apply6_ann n Try.f50 (sg 50) [vA T 63 c0, vA T 85 u1] spec_Apply6_dec = spec_Apply6 n c0 u1 := by kernel_rfl
theorem spec_Apply6_lo (n : Nat) : LoopsOk (T := T) (Phi n 24) (spec_Apply6_Ls n) spec_Apply6_ann n spec_Apply6_code := loopsOk_all (cs := [spec_Apply6_11_c]) (by kernel_rfl) ⟨⟨_, by kernel_rfl, spec_Apply6_11_le n⟩, trivial⟩
theorem spec_Apply6_ok (n : Nat) : EntOk Try.prog (ents n) (spec_Apply6_ent n) := by
  intro hs ar y hg h
  replace h : spec_Apply6_D n ar = some y := h
  unfold spec_Apply6_D at h
  replace h := ocons_some h
  obtain ⟨a0, r0, rfl, h⟩ := h
  replace h := ocons_some h
  obtain ⟨a1, r1, rfl, h⟩ := h
  replace h := onil_some h
  obtain ⟨rfl, h⟩ := h
  obtain ⟨c0, qh0, h⟩ := obind_some h
  obtain ⟨u1, qh1, h⟩ := obind_some h
  rw [argV_eq ok qh0, argV_eq ok qh1]
  exact call_of (phiE_nat _ _) hs ok mixed Try.func50 (c := spec_Apply6_code) (by kernel_rfl) (spec_Apply6_lo n) (by kernel_rfl) (by kernel_rfl) (by kernel_rfl) spec_Apply6_de ((spec_Apply6_tie n c0 u1).trans h)
noncomputable def spec_Catch_code : Code := match Try.f57.body with | some c => c | none => .skip
def spec_Catch_7_sv : List Sv := [.one (.arr 85), .one (.ptr 16 0 0), .one (.ptr 32 0 0), .one (.own 3000000 3 false), .one (.own 3000001 4 false), .one (.bool)]
def spec_Catch_7_so : List So := [.var [.int .i64, .int .i64, .own 3000002 3 false, .own 3000003 181 false, .int .i64], .arr 3 false, .arr 181 false, .var [.int .i64, .int .i64, .own 3000004 3 false, .own 3000005 181 false, .int .i64], .arr 3 false, .arr 181 false, .arr 3 false, .arr 4 false]
def spec_Catch_7_emb (c : List SUpdate × Int × Int × Int × List Int × List SFeature × List Int) (x : Bool × Int × Int × Int × List Int × List SFeature × List Bool) : EVs T spec_Catch_7_sv × EOs T spec_Catch_7_so := ((c.1, (), (), (), (), x.1, ()), ((x.2.1, x.2.2.1, (), (), x.2.2.2.1, ()), x.2.2.2.2.1, x.2.2.2.2.2.1, (c.2.1, c.2.2.1, (), (), c.2.2.2.1, ()), c.2.2.2.2.1, c.2.2.2.2.2.1, c.2.2.2.2.2.2, x.2.2.2.2.2.2, ()))
def spec_Catch_7_prj (y : EVs T spec_Catch_7_sv × EOs T spec_Catch_7_so) : (List SUpdate × Int × Int × Int × List Int × List SFeature × List Int) × (Bool × Int × Int × Int × List Int × List SFeature × List Bool) := ((y.1.1, y.2.2.2.2.1.1, y.2.2.2.2.1.2.1, y.2.2.2.2.1.2.2.2.2.1, y.2.2.2.2.2.1, y.2.2.2.2.2.2.1, y.2.2.2.2.2.2.2.1), (y.1.2.2.2.2.2.1, y.2.1.1, y.2.1.2.1, y.2.1.2.2.2.2.1, y.2.2.1, y.2.2.2.1, y.2.2.2.2.2.2.2.2.1))
def spec_Catch_7_b (n : Nat) {R : Type} (K : Ex → Sm.St T → Option R) (c : List SUpdate × Int × Int × Int × List Int × List SFeature × List Int) (x : Bool × Int × Int × Int × List Int × List SFeature × List Bool) (J : (Bool × Int × Int × Int × List Int × List SFeature × List Bool) → Option R) : Option R :=
  spec_Catch_L7 n (fun (y1 : Int) (y2 : Int) (y3 : Int) (y4 : List Int) (y5 : List SFeature) (y12 : List Bool) => K (.exit 0) (stOf (T := T) [1, 2, 4, 6, 7] [16, 3000002, 3000003, 32, 3000004, 3000005, 3000000, 3000001] [.one (.arr 85), .one (.ptr 16 0 0), .one (.ptr 32 0 0), .one (.own 3000000 3 false), .one (.own 3000001 4 false)] [.var [.int .i64, .int .i64, .own 3000002 3 false, .own 3000003 181 false, .int .i64], .arr 3 false, .arr 181 false, .var [.int .i64, .int .i64, .own 3000004 3 false, .own 3000005 181 false, .int .i64], .arr 3 false, .arr 181 false, .arr 3 false, .arr 4 false] (c.1, (), (), (), (), ()) ((y1, y2, (), (), y3, ()), y4, y5, (c.2.1, c.2.2.1, (), (), c.2.2.2.1, ()), c.2.2.2.2.1, c.2.2.2.2.2.1, c.2.2.2.2.2.2, y12, ()))) (fun z0 z1 z2 z3 z4 z5 z6 => J (z0, z1, z2, z3, z4, z5, z6)) c.1 x.1 x.2.1 x.2.2.1 x.2.2.2.1 x.2.2.2.2.1 x.2.2.2.2.2.1 c.2.1 c.2.2.1 c.2.2.2.1 c.2.2.2.2.1 c.2.2.2.2.2.1 c.2.2.2.2.2.2 x.2.2.2.2.2.2
def spec_Catch_7_sp (n : Nat) : LSpec T := mkSpec T ⟨[((.reg 6), 3000000, 3), ((.reg 7), 3000001, 4), ((.cell 16 2), 3000002, 3), ((.cell 16 3), 3000003, 181), ((.cell 32 2), 3000004, 3), ((.cell 32 3), 3000005, 181)], [1, 2, 4, 6, 7, 8], [16, 3000002, 3000003, 32, 3000004, 3000005, 3000000, 3000001]⟩ spec_Catch_7_sv spec_Catch_7_so (List SUpdate × Int × Int × Int × List Int × List SFeature × List Int) (Bool × Int × Int × Int × List Int × List SFeature × List Bool) spec_Catch_7_emb spec_Catch_7_prj (spec_Catch_7_b n)
noncomputable def spec_Catch_7_c : Code := ((loopCodes spec_Catch_code)[0]?).getD .skip
def spec_Catch_10_sv : List Sv := [.one (.arr 85), .one (.ptr 16 0 0), .one (.ptr 32 0 0), .one (.own 3000000 3 false), .one (.own 3000001 4 false), .one (.bool), .one (.int .i64)]
def spec_Catch_10_so : List So := [.var [.int .i64, .int .i64, .own 3000002 3 false, .own 3000003 181 false, .int .i64], .arr 3 false, .arr 181 false, .var [.int .i64, .int .i64, .own 3000004 3 false, .own 3000005 181 false, .int .i64], .arr 3 false, .arr 181 false, .arr 3 false, .arr 4 false]
def spec_Catch_10_emb (c : List SUpdate × Int × Int × Int × List Int × List SFeature × List Int) (x : Bool × Int × Int × Int × Int × List Int × List SFeature × List Bool) : EVs T spec_Catch_10_sv × EOs T spec_Catch_10_so := ((c.1, (), (), (), (), x.1, x.2.1, ()), ((x.2.2.1, x.2.2.2.1, (), (), x.2.2.2.2.1, ()), x.2.2.2.2.2.1, x.2.2.2.2.2.2.1, (c.2.1, c.2.2.1, (), (), c.2.2.2.1, ()), c.2.2.2.2.1, c.2.2.2.2.2.1, c.2.2.2.2.2.2, x.2.2.2.2.2.2.2, ()))
def spec_Catch_10_prj (y : EVs T spec_Catch_10_sv × EOs T spec_Catch_10_so) : (List SUpdate × Int × Int × Int × List Int × List SFeature × List Int) × (Bool × Int × Int × Int × Int × List Int × List SFeature × List Bool) := ((y.1.1, y.2.2.2.2.1.1, y.2.2.2.2.1.2.1, y.2.2.2.2.1.2.2.2.2.1, y.2.2.2.2.2.1, y.2.2.2.2.2.2.1, y.2.2.2.2.2.2.2.1), (y.1.2.2.2.2.2.1, y.1.2.2.2.2.2.2.1, y.2.1.1, y.2.1.2.1, y.2.1.2.2.2.2.1, y.2.2.1, y.2.2.2.1, y.2.2.2.2.2.2.2.2.1))
def spec_Catch_10_b (n : Nat) {R : Type} (K : Ex → Sm.St T → Option R) (c : List SUpdate × Int × Int × Int × List Int × List SFeature × List Int) (x : Bool × Int × Int × Int × Int × List Int × List SFeature × List Bool) (J : (Bool × Int × Int × Int × Int × List Int × List SFeature × List Bool) → Option R) : Option R :=
  spec_Catch_L10 n (fun (y1 : Bool) (y2 : Int) (y3 : Int) (y4 : Int) (y5 : List Int) (y6 : List SFeature) (y13 : List Bool) => K (.exit 2) (stOf (T := T) [1, 2, 4, 6, 7, 8] [16, 3000002, 3000003, 32, 3000004, 3000005, 3000000, 3000001] [.one (.arr 85), .one (.ptr 16 0 0), .one (.ptr 32 0 0), .one (.own 3000000 3 false), .one (.own 3000001 4 false), .one (.bool)] [.var [.int .i64, .int .i64, .own 3000002 3 false, .own 3000003 181 false, .int .i64], .arr 3 false, .arr 181 false, .var [.int .i64, .int .i64, .own 3000004 3 false, .own 3000005 181 false, .int .i64], .arr 3 false, .arr 181 false, .arr 3 false, .arr 4 false] (c.1, (), (), (), (), y1, ()) ((y2, y3, (), (), y4, ()), y5, y6, (c.2.1, c.2.2.1, (), (), c.2.2.2.1, ()), c.2.2.2.2.1, c.2.2.2.2.2.1, c.2.2.2.2.2.2, y13, ()))) (fun z0 z1 z2 z3 z4 z5 z6 z7 => J (z0, z1, z2, z3, z4, z5, z6, z7)) c.1 x.1 x.2.1 x.2.2.1 x.2.2.2.1 x.2.2.2.2.1 x.2.2.2.2.2.1 x.2.2.2.2.2.2.1 c.2.1 c.2.2.1 c.2.2.2.1 c.2.2.2.2.1 c.2.2.2.2.2.1 c.2.2.2.2.2.2 x.2.2.2.2.2.2.2
def spec_Catch_10_sp (n : Nat) : LSpec T := mkSpec T ⟨[((.reg 6), 3000000, 3), ((.reg 7), 3000001, 4), ((.cell 16 2), 3000002, 3), ((.cell 16 3), 3000003, 181), ((.cell 32 2), 3000004, 3), ((.cell 32 3), 3000005, 181)], [1, 2, 4, 6, 7, 8, 9], [16, 3000002, 3000003, 32, 3000004, 3000005, 3000000, 3000001]⟩ spec_Catch_10_sv spec_Catch_10_so (List SUpdate × Int × Int × Int × List Int × List SFeature × List Int) (Bool × Int × Int × Int × Int × List Int × List SFeature × List Bool) spec_Catch_10_emb spec_Catch_10_prj (spec_Catch_10_b n)
noncomputable def spec_Catch_10_c : Code := ((loopCodes spec_Catch_code)[1]?).getD .skip
def spec_Catch_19_sv : List Sv := [.one (.arr 85), .one (.ptr 16 0 0), .one (.ptr 32 0 0), .one (.own 3000000 3 false), .one (.own 3000001 4 false), .one (.int .i64)]
def spec_Catch_19_so : List So := [.var [.int .i64, .int .i64, .own 3000002 3 false, .own 3000003 181 false, .int .i64], .arr 3 false, .arr 181 false, .var [.int .i64, .int .i64, .own 3000004 3 false, .own 3000005 181 false, .int .i64], .arr 3 false, .arr 181 false, .arr 3 false, .arr 4 false]
def spec_Catch_19_emb (c : List SUpdate × Int × Int × Int × List Int × List SFeature × Int × Int × Int × List Int × List SFeature × List Bool) (x : Int × List Int) : EVs T spec_Catch_19_sv × EOs T spec_Catch_19_so := ((c.1, (), (), (), (), x.1, ()), ((c.2.1, c.2.2.1, (), (), c.2.2.2.1, ()), c.2.2.2.2.1, c.2.2.2.2.2.1, (c.2.2.2.2.2.2.1, c.2.2.2.2.2.2.2.1, (), (), c.2.2.2.2.2.2.2.2.1, ()), c.2.2.2.2.2.2.2.2.2.1, c.2.2.2.2.2.2.2.2.2.2.1, x.2, c.2.2.2.2.2.2.2.2.2.2.2, ()))
def spec_Catch_19_prj (y : EVs T spec_Catch_19_sv × EOs T spec_Catch_19_so) : (List SUpdate × Int × Int × Int × List Int × List SFeature × Int × Int × Int × List Int × List SFeature × List Bool) × (Int × List Int) := ((y.1.1, y.2.1.1, y.2.1.2.1, y.2.1.2.2.2.2.1, y.2.2.1, y.2.2.2.1, y.2.2.2.2.1.1, y.2.2.2.2.1.2.1, y.2.2.2.2.1.2.2.2.2.1, y.2.2.2.2.2.1, y.2.2.2.2.2.2.1, y.2.2.2.2.2.2.2.2.1), (y.1.2.2.2.2.2.1, y.2.2.2.2.2.2.2.1))
def spec_Catch_19_b (n : Nat) {R : Type} (K : Ex → Sm.St T → Option R) (c : List SUpdate × Int × Int × Int × List Int × List SFeature × Int × Int × Int × List Int × List SFeature × List Bool) (x : Int × List Int) (J : (Int × List Int) → Option R) : Option R :=
  spec_Catch_L19 n (fun (y10 : List Int) => K (.exit 4) (stOf (T := T) [2, 4, 6] [16, 3000002, 3000003, 32, 3000004, 3000005, 3000000] [.one (.ptr 16 0 0), .one (.ptr 32 0 0), .one (.own 3000000 3 false)] [.var [.int .i64, .int .i64, .own 3000002 3 false, .own 3000003 181 false, .int .i64], .arr 3 false, .arr 181 false, .var [.int .i64, .int .i64, .own 3000004 3 false, .own 3000005 181 false, .int .i64], .arr 3 false, .arr 181 false, .arr 3 false] ((), (), (), ()) ((c.2.1, c.2.2.1, (), (), c.2.2.2.1, ()), c.2.2.2.2.1, c.2.2.2.2.2.1, (c.2.2.2.2.2.2.1, c.2.2.2.2.2.2.2.1, (), (), c.2.2.2.2.2.2.2.2.1, ()), c.2.2.2.2.2.2.2.2.2.1, c.2.2.2.2.2.2.2.2.2.2.1, y10, ()))) (fun z0 z1 => J (z0, z1)) c.1 x.1 c.2.1 c.2.2.1 c.2.2.2.1 c.2.2.2.2.1 c.2.2.2.2.2.1 c.2.2.2.2.2.2.1 c.2.2.2.2.2.2.2.1 c.2.2.2.2.2.2.2.2.1 c.2.2.2.2.2.2.2.2.2.1 c.2.2.2.2.2.2.2.2.2.2.1 x.2 c.2.2.2.2.2.2.2.2.2.2.2
def spec_Catch_19_sp (n : Nat) : LSpec T := mkSpec T ⟨[((.reg 6), 3000000, 3), ((.reg 7), 3000001, 4), ((.cell 16 2), 3000002, 3), ((.cell 16 3), 3000003, 181), ((.cell 32 2), 3000004, 3), ((.cell 32 3), 3000005, 181)], [1, 2, 4, 6, 7, 12], [16, 3000002, 3000003, 32, 3000004, 3000005, 3000000, 3000001]⟩ spec_Catch_19_sv spec_Catch_19_so (List SUpdate × Int × Int × Int × List Int × List SFeature × Int × Int × Int × List Int × List SFeature × List Bool) (Int × List Int) spec_Catch_19_emb spec_Catch_19_prj (spec_Catch_19_b n)
noncomputable def spec_Catch_19_c : Code := ((loopCodes spec_Catch_code)[2]?).getD .skip
def spec_Catch_ann : Ann := fun id => bif Nat.beq id 3000007 then some ⟨[((.reg 6), 3000000, 3), ((.reg 7), 3000001, 4), ((.cell 16 2), 3000002, 3), ((.cell 16 3), 3000003, 181), ((.cell 32 2), 3000004, 3), ((.cell 32 3), 3000005, 181)], [1, 2, 4, 6, 7], [16, 3000002, 3000003, 32, 3000004, 3000005, 3000000, 3000001]⟩ else bif Nat.beq id 5000010 then some ⟨[((.reg 6), 3000000, 3), ((.reg 7), 3000001, 4), ((.cell 16 2), 3000002, 3), ((.cell 16 3), 3000003, 181), ((.cell 32 2), 3000004, 3), ((.cell 32 3), 3000005, 181)], [1, 2, 4, 6, 7, 8], [16, 3000002, 3000003, 32, 3000004, 3000005, 3000000, 3000001]⟩ else bif Nat.beq id 7000019 then some ⟨[((.reg 6), 3000000, 3), ((.cell 16 2), 3000002, 3), ((.cell 16 3), 3000003, 181), ((.cell 32 2), 3000004, 3), ((.cell 32 3), 3000005, 181)], [2, 4, 6], [16, 3000002, 3000003, 32, 3000004, 3000005, 3000000]⟩ else none
def spec_Catch_Ls (n : Nat) : Nat → Option (LSpec T) := fun id => bif Nat.beq id 7 then some (spec_Catch_7_sp n) else bif Nat.beq id 10 then some (spec_Catch_10_sp n) else bif Nat.beq id 19 then some (spec_Catch_19_sp n) else none
theorem spec_Catch_7_le (n : Nat) : LoopEq (T := T) (Phi n 25) (spec_Catch_Ls n) spec_Catch_ann n spec_Catch_7_c (spec_Catch_7_sp n) := ⟨mkSpec_dec (fun y => rfl), fun c x => by kernel_rfl, fun K J c x => by kernel_rfl⟩
theorem spec_Catch_10_le (n : Nat) : LoopEq (T := T) (Phi n 25) (spec_Catch_Ls n) spec_Catch_ann n spec_Catch_10_c (spec_Catch_10_sp n) := ⟨mkSpec_dec (fun y => rfl), fun c x => by kernel_rfl, fun K J c x => by kernel_rfl⟩
theorem spec_Catch_19_le (n : Nat) : LoopEq (T := T) (Phi n 25) (spec_Catch_Ls n) spec_Catch_ann n spec_Catch_19_c (spec_Catch_19_sp n) := ⟨mkSpec_dec (fun y => rfl), fun c x => by kernel_rfl, fun K J c x => by kernel_rfl⟩
theorem spec_Catch_tie (n : Nat) (c0 : SChart) (list1 : List SUpdate) : evF (T := T) (Phi n 25) (spec_Catch_Ls n) spec_Catch_ann n Try.f57 (sg 57) [vA T 63 c0, vA T 94 list1] spec_Catch_dec = spec_Catch n c0 list1 := by kernel_rfl
theorem spec_Catch_lo (n : Nat) : LoopsOk (T := T) (Phi n 25) (spec_Catch_Ls n) spec_Catch_ann n spec_Catch_code := loopsOk_all (cs := [spec_Catch_7_c, spec_Catch_10_c, spec_Catch_19_c]) (by kernel_rfl) ⟨⟨_, by kernel_rfl, spec_Catch_7_le n⟩, ⟨_, by kernel_rfl, spec_Catch_10_le n⟩, ⟨_, by kernel_rfl, spec_Catch_19_le n⟩, trivial⟩
theorem spec_Catch_ok (n : Nat) : EntOk Try.prog (ents n) (spec_Catch_ent n) := by
  intro hs ar y hg h
  replace h : spec_Catch_D n ar = some y := h
  unfold spec_Catch_D at h
  replace h := ocons_some h
  obtain ⟨a0, r0, rfl, h⟩ := h
  replace h := ocons_some h
  obtain ⟨a1, r1, rfl, h⟩ := h
  replace h := onil_some h
  obtain ⟨rfl, h⟩ := h
  obtain ⟨c0, qh0, h⟩ := obind_some h
  obtain ⟨list1, qh1, h⟩ := obind_some h
  rw [argV_eq ok qh0, argV_eq ok qh1]
  exact call_of (phiE_nat _ _) hs ok mixed Try.func57 (c := spec_Catch_code) (by kernel_rfl) (spec_Catch_lo n) (by kernel_rfl) (by kernel_rfl) (by kernel_rfl) spec_Catch_de ((spec_Catch_tie n c0 list1).trans h)
noncomputable def impl_own_int_code : Code := match Try.f104.body with | some c => c | none => .skip
def impl_own_int_ann : Ann := fun id => none
def impl_own_int_Ls (n : Nat) : Nat → Option (LSpec T) := fun id => none
theorem impl_own_int_tie (n : Nat) (l0 : List Int) : evF (T := T) (Phi n 26) (impl_own_int_Ls n) impl_own_int_ann n Try.f104 (sg 104) [vA T 55 l0] impl_own_int_dec = impl_own_int n l0 := by kernel_rfl
theorem impl_own_int_lo (n : Nat) : LoopsOk (T := T) (Phi n 26) (impl_own_int_Ls n) impl_own_int_ann n impl_own_int_code := loopsOk_all (cs := []) (by kernel_rfl) trivial
theorem impl_own_int_ok (n : Nat) : EntOk Try.prog (ents n) (impl_own_int_ent n) := by
  intro hs ar y hg h
  replace h : impl_own_int_D n ar = some y := h
  unfold impl_own_int_D at h
  replace h := ocons_some h
  obtain ⟨a0, r0, rfl, h⟩ := h
  replace h := onil_some h
  obtain ⟨rfl, h⟩ := h
  obtain ⟨l0, qh0, h⟩ := obind_some h
  rw [argV_eq ok qh0]
  exact call_of (phiE_nat _ _) hs ok mixed Try.func104 (c := impl_own_int_code) (by kernel_rfl) (impl_own_int_lo n) (by kernel_rfl) (by kernel_rfl) (by kernel_rfl) impl_own_int_de ((impl_own_int_tie n l0).trans h)
noncomputable def impl_own_impl_Feature_code : Code := match Try.f203.body with | some c => c | none => .skip
def impl_own_impl_Feature_ann : Ann := fun id => none
def impl_own_impl_Feature_Ls (n : Nat) : Nat → Option (LSpec T) := fun id => none
theorem impl_own_impl_Feature_tie (n : Nat) (l0 : List SFeature) : evF (T := T) (Phi n 27) (impl_own_impl_Feature_Ls n) impl_own_impl_Feature_ann n Try.f203 (sg 203) [vA T 61 l0] impl_own_impl_Feature_dec = impl_own_impl_Feature n l0 := by kernel_rfl
theorem impl_own_impl_Feature_lo (n : Nat) : LoopsOk (T := T) (Phi n 27) (impl_own_impl_Feature_Ls n) impl_own_impl_Feature_ann n impl_own_impl_Feature_code := loopsOk_all (cs := []) (by kernel_rfl) trivial
theorem impl_own_impl_Feature_ok (n : Nat) : EntOk Try.prog (ents n) (impl_own_impl_Feature_ent n) := by
  intro hs ar y hg h
  replace h : impl_own_impl_Feature_D n ar = some y := h
  unfold impl_own_impl_Feature_D at h
  replace h := ocons_some h
  obtain ⟨a0, r0, rfl, h⟩ := h
  replace h := onil_some h
  obtain ⟨rfl, h⟩ := h
  obtain ⟨l0, qh0, h⟩ := obind_some h
  rw [argV_eq ok qh0]
  exact call_of (phiE_nat _ _) hs ok mixed Try.func203 (c := impl_own_impl_Feature_code) (by kernel_rfl) (impl_own_impl_Feature_lo n) (by kernel_rfl) (by kernel_rfl) (by kernel_rfl) impl_own_impl_Feature_de ((impl_own_impl_Feature_tie n l0).trans h)
noncomputable def impl_Chart_own_code : Code := match Try.f133.body with | some c => c | none => .skip
def impl_Chart_own_ann : Ann := fun id => none
def impl_Chart_own_Ls (n : Nat) : Nat → Option (LSpec T) := fun id => none
theorem impl_Chart_own_tie (n : Nat) (c0 : SChart) : evF (T := T) (Phi n 28) (impl_Chart_own_Ls n) impl_Chart_own_ann n Try.f133 (sg 133) [vA T 63 c0] impl_Chart_own_dec = impl_Chart_own n c0 := by kernel_rfl
theorem impl_Chart_own_lo (n : Nat) : LoopsOk (T := T) (Phi n 28) (impl_Chart_own_Ls n) impl_Chart_own_ann n impl_Chart_own_code := loopsOk_all (cs := []) (by kernel_rfl) trivial
theorem impl_Chart_own_ok (n : Nat) : EntOk Try.prog (ents n) (impl_Chart_own_ent n) := by
  intro hs ar y hg h
  replace h : impl_Chart_own_D n ar = some y := h
  unfold impl_Chart_own_D at h
  replace h := ocons_some h
  obtain ⟨a0, r0, rfl, h⟩ := h
  replace h := onil_some h
  obtain ⟨rfl, h⟩ := h
  obtain ⟨c0, qh0, h⟩ := obind_some h
  rw [argV_eq ok qh0]
  exact call_of (phiE_nat _ _) hs ok mixed Try.func133 (c := impl_Chart_own_code) (by kernel_rfl) (impl_Chart_own_lo n) (by kernel_rfl) (by kernel_rfl) (by kernel_rfl) impl_Chart_own_de ((impl_Chart_own_tie n c0).trans h)
noncomputable def impl_in_code : Code := match Try.f119.body with | some c => c | none => .skip
def impl_in_ann : Ann := fun id => none
def impl_in_Ls (n : Nat) : Nat → Option (LSpec T) := fun id => none
theorem impl_in_tie (n : Nat) (n0 : Int) (least1 : Int) (most2 : Int) : evF (T := T) (Phi n 29) (impl_in_Ls n) impl_in_ann n Try.f119 (sg 119) [vA T 3 n0, vA T 3 least1, vA T 3 most2] impl_in_dec = impl_in n n0 least1 most2 := by kernel_rfl
theorem impl_in_lo (n : Nat) : LoopsOk (T := T) (Phi n 29) (impl_in_Ls n) impl_in_ann n impl_in_code := loopsOk_all (cs := []) (by kernel_rfl) trivial
theorem impl_in_ok (n : Nat) : EntOk Try.prog (ents n) (impl_in_ent n) := by
  intro hs ar y hg h
  replace h : impl_in_D n ar = some y := h
  unfold impl_in_D at h
  replace h := ocons_some h
  obtain ⟨a0, r0, rfl, h⟩ := h
  replace h := ocons_some h
  obtain ⟨a1, r1, rfl, h⟩ := h
  replace h := ocons_some h
  obtain ⟨a2, r2, rfl, h⟩ := h
  replace h := onil_some h
  obtain ⟨rfl, h⟩ := h
  obtain ⟨n0, qh0, h⟩ := obind_some h
  obtain ⟨least1, qh1, h⟩ := obind_some h
  obtain ⟨most2, qh2, h⟩ := obind_some h
  rw [argV_eq ok qh0, argV_eq ok qh1, argV_eq ok qh2]
  exact call_of (phiE_nat _ _) hs ok mixed Try.func119 (c := impl_in_code) (by kernel_rfl) (impl_in_lo n) (by kernel_rfl) (by kernel_rfl) (by kernel_rfl) impl_in_de ((impl_in_tie n n0 least1 most2).trans h)
noncomputable def impl_all_1_code : Code := match Try.f196.body with | some c => c | none => .skip
def impl_all_1_ann : Ann := fun id => none
def impl_all_1_Ls (n : Nat) : Nat → Option (LSpec T) := fun id => none
theorem impl_all_1_tie (n : Nat) (n0 : Int) (a1 : Int) (a2 : Int) : evF (T := T) (Phi n 30) (impl_all_1_Ls n) impl_all_1_ann n Try.f196 (sg 196) [vA T 3 n0, .ptr 3 a1, .ptr 3 a2] impl_all_1_dec = impl_all_1 n n0 a1 a2 := by kernel_rfl
theorem impl_all_1_lo (n : Nat) : LoopsOk (T := T) (Phi n 30) (impl_all_1_Ls n) impl_all_1_ann n impl_all_1_code := loopsOk_all (cs := []) (by kernel_rfl) trivial
theorem impl_all_1_ok (n : Nat) : EntOk Try.prog (ents n) (impl_all_1_ent n) := by
  intro hs ar y hg h
  replace h : impl_all_1_D n ar = some y := h
  unfold impl_all_1_D at h
  replace h := ocons_some h
  obtain ⟨a0, r0, rfl, h⟩ := h
  replace h := ocons_some h
  obtain ⟨a1, r1, rfl, h⟩ := h
  replace h := ocons_some h
  obtain ⟨a2, r2, rfl, h⟩ := h
  replace h := onil_some h
  obtain ⟨rfl, h⟩ := h
  obtain ⟨n0, qh0, h⟩ := obind_some h
  obtain ⟨a1, qh1, h⟩ := obind_some h
  obtain ⟨a2, qh2, h⟩ := obind_some h
  rw [argV_eq ok qh0, argP_eq qh1, argP_eq qh2]
  exact call_of (phiE_nat _ _) hs ok mixed Try.func196 (c := impl_all_1_code) (by kernel_rfl) (impl_all_1_lo n) (by kernel_rfl) (by kernel_rfl) (by kernel_rfl) impl_all_1_de ((impl_all_1_tie n n0 a1 a2).trans h)
noncomputable def slices_IndexFunc_int_int__impl_all_1_code : Code := match Try.f222.body with | some c => c | none => .skip
def slices_IndexFunc_int_int__impl_all_1_2_sv : List Sv := [.one (.arr 3), .one (.fnr 196 [3, 3]), .one (.int .i64), .one (.int .i64)]
def slices_IndexFunc_int_int__impl_all_1_2_so : List So := []
def slices_IndexFunc_int_int__impl_all_1_2_emb (c : List Int × Int × Int × Int) (x : Int) : EVs T slices_IndexFunc_int_int__impl_all_1_2_sv × EOs T slices_IndexFunc_int_int__impl_all_1_2_so := ((c.1, (c.2.1, c.2.2.1, ()), c.2.2.2, x, ()), ())
def slices_IndexFunc_int_int__impl_all_1_2_prj (y : EVs T slices_IndexFunc_int_int__impl_all_1_2_sv × EOs T slices_IndexFunc_int_int__impl_all_1_2_so) : (List Int × Int × Int × Int) × Int := ((y.1.1, y.1.2.1.1, y.1.2.1.2.1, y.1.2.2.1), (y.1.2.2.2.1))
def slices_IndexFunc_int_int__impl_all_1_2_b (n : Nat) {R : Type} (K : Ex → Sm.St T → Option R) (c : List Int × Int × Int × Int) (x : Int) (J : Int → Option R) : Option R :=
  slices_IndexFunc_int_int__impl_all_1_L2 n (K (.exit 0) (stOf (T := T) [] [] [] [] () ())) (fun (y0 : Int) => K .ret (stOf (T := T) [4] [] [.one (.int .i64)] [] (y0, ()) ())) J c.1 c.2.1 c.2.2.1 c.2.2.2 x
def slices_IndexFunc_int_int__impl_all_1_2_sp (n : Nat) : LSpec T := mkSpec T ⟨[], [0, 1, 7, 8], []⟩ slices_IndexFunc_int_int__impl_all_1_2_sv slices_IndexFunc_int_int__impl_all_1_2_so (List Int × Int × Int × Int) (Int) slices_IndexFunc_int_int__impl_all_1_2_emb slices_IndexFunc_int_int__impl_all_1_2_prj (slices_IndexFunc_int_int__impl_all_1_2_b n)
noncomputable def slices_IndexFunc_int_int__impl_all_1_2_c : Code := ((loopCodes slices_IndexFunc_int_int__impl_all_1_code)[0]?).getD .skip
def slices_IndexFunc_int_int__impl_all_1_ann : Ann := fun id => bif Nat.beq id 3000002 then some ⟨[], [], []⟩ else bif Nat.beq id 2000002 then some ⟨[], [4], []⟩ else none
def slices_IndexFunc_int_int__impl_all_1_Ls (n : Nat) : Nat → Option (LSpec T) := fun id => bif Nat.beq id 2 then some (slices_IndexFunc_int_int__impl_all_1_2_sp n) else none
theorem slices_IndexFunc_int_int__impl_all_1_2_le (n : Nat) : LoopEq (T := T) (Phi n 31) (slices_IndexFunc_int_int__impl_all_1_Ls n) slices_IndexFunc_int_int__impl_all_1_ann n slices_IndexFunc_int_int__impl_all_1_2_c (slices_IndexFunc_int_int__impl_all_1_2_sp n) := ⟨mkSpec_dec (fun y => rfl), fun c x => by kernel_rfl, fun K J c x => by kernel_rfl⟩
theorem slices_IndexFunc_int_int__impl_all_1_tie (n : Nat) (s0 : List Int) (f1c0 : Int) (f1c1 : Int) : evF (T := T) (Phi n 31) (slices_IndexFunc_int_int__impl_all_1_Ls n) slices_IndexFunc_int_int__impl_all_1_ann n Try.f222 (sg 222) [vA T 55 s0, .fn 196 [.ptr 3 f1c0, .ptr 3 f1c1]] slices_IndexFunc_int_int__impl_all_1_dec = slices_IndexFunc_int_int__impl_all_1 n s0 f1c0 f1c1 := by kernel_rfl
theorem slices_IndexFunc_int_int__impl_all_1_lo (n : Nat) : LoopsOk (T := T) (Phi n 31) (slices_IndexFunc_int_int__impl_all_1_Ls n) slices_IndexFunc_int_int__impl_all_1_ann n slices_IndexFunc_int_int__impl_all_1_code := loopsOk_all (cs := [slices_IndexFunc_int_int__impl_all_1_2_c]) (by kernel_rfl) ⟨⟨_, by kernel_rfl, slices_IndexFunc_int_int__impl_all_1_2_le n⟩, trivial⟩
theorem slices_IndexFunc_int_int__impl_all_1_ok (n : Nat) : EntOk Try.prog (ents n) (slices_IndexFunc_int_int__impl_all_1_ent n) := by
  intro hs ar y hg h
  replace h : slices_IndexFunc_int_int__impl_all_1_D n ar = some y := h
  unfold slices_IndexFunc_int_int__impl_all_1_D at h
  split at h
  · obtain ⟨s0, qh0, h⟩ := obind_some h
    obtain ⟨f1c0, qh1, h⟩ := obind_some h
    obtain ⟨f1c1, qh2, h⟩ := obind_some h
    rw [argV_eq ok qh0, argP_eq qh1, argP_eq qh2] at hg ⊢
    cases (show [_] = [196] from natsEq_eq hg)
    exact call_of (phiE_nat _ _) hs ok mixed Try.func222 (c := slices_IndexFunc_int_int__impl_all_1_code) (by kernel_rfl) (slices_IndexFunc_int_int__impl_all_1_lo n) (by kernel_rfl) (by kernel_rfl) (by kernel_rfl) slices_IndexFunc_int_int__impl_all_1_de ((slices_IndexFunc_int_int__impl_all_1_tie n s0 f1c0 f1c1).trans h)
  · cases h
noncomputable def slices_ContainsFunc_int_int__impl_all_1_code : Code := match Try.f158.body with | some c => c | none => .skip
def slices_ContainsFunc_int_int__impl_all_1_ann : Ann := fun id => none
def slices_ContainsFunc_int_int__impl_all_1_Ls (n : Nat) : Nat → Option (LSpec T) := fun id => none
theorem slices_ContainsFunc_int_int__impl_all_1_tie (n : Nat) (s0 : List Int) (f1c0 : Int) (f1c1 : Int) : evF (T := T) (Phi n 32) (slices_ContainsFunc_int_int__impl_all_1_Ls n) slices_ContainsFunc_int_int__impl_all_1_ann n Try.f158 (sg 158) [vA T 55 s0, .fn 196 [.ptr 3 f1c0, .ptr 3 f1c1]] slices_ContainsFunc_int_int__impl_all_1_dec = slices_ContainsFunc_int_int__impl_all_1 n s0 f1c0 f1c1 := by kernel_rfl
theorem slices_ContainsFunc_int_int__impl_all_1_lo (n : Nat) : LoopsOk (T := T) (Phi n 32) (slices_ContainsFunc_int_int__impl_all_1_Ls n) slices_ContainsFunc_int_int__impl_all_1_ann n slices_ContainsFunc_int_int__impl_all_1_code := loopsOk_all (cs := []) (by kernel_rfl) trivial
theorem slices_ContainsFunc_int_int__impl_all_1_ok (n : Nat) : EntOk Try.prog (ents n) (slices_ContainsFunc_int_int__impl_all_1_ent n) := by
  intro hs ar y hg h
  replace h : slices_ContainsFunc_int_int__impl_all_1_D n ar = some y := h
  unfold slices_ContainsFunc_int_int__impl_all_1_D at h
  split at h
  · obtain ⟨s0, qh0, h⟩ := obind_some h
    obtain ⟨f1c0, qh1, h⟩ := obind_some h
    obtain ⟨f1c1, qh2, h⟩ := obind_some h
    rw [argV_eq ok qh0, argP_eq qh1, argP_eq qh2] at hg ⊢
    cases (show [_] = [196] from natsEq_eq hg)
    exact call_of (phiE_nat _ _) hs ok mixed Try.func158 (c := slices_ContainsFunc_int_int__impl_all_1_code) (by kernel_rfl) (slices_ContainsFunc_int_int__impl_all_1_lo n) (by kernel_rfl) (by kernel_rfl) (by kernel_rfl) slices_ContainsFunc_int_int__impl_all_1_de ((slices_ContainsFunc_int_int__impl_all_1_tie n s0 f1c0 f1c1).trans h)
  · cases h
noncomputable def impl_all_code : Code := match Try.f120.body with | some c => c | none => .skip
def impl_all_ann : Ann := fun id => none
def impl_all_Ls (n : Nat) : Nat → Option (LSpec T) := fun id => none
theorem impl_all_tie (n : Nat) (l0 : List Int) (least1 : Int) (most2 : Int) : evF (T := T) (Phi n 33) (impl_all_Ls n) impl_all_ann n Try.f120 (sg 120) [vA T 55 l0, vA T 3 least1, vA T 3 most2] impl_all_dec = impl_all n l0 least1 most2 := by kernel_rfl
theorem impl_all_lo (n : Nat) : LoopsOk (T := T) (Phi n 33) (impl_all_Ls n) impl_all_ann n impl_all_code := loopsOk_all (cs := []) (by kernel_rfl) trivial
theorem impl_all_ok (n : Nat) : EntOk Try.prog (ents n) (impl_all_ent n) := by
  intro hs ar y hg h
  replace h : impl_all_D n ar = some y := h
  unfold impl_all_D at h
  replace h := ocons_some h
  obtain ⟨a0, r0, rfl, h⟩ := h
  replace h := ocons_some h
  obtain ⟨a1, r1, rfl, h⟩ := h
  replace h := ocons_some h
  obtain ⟨a2, r2, rfl, h⟩ := h
  replace h := onil_some h
  obtain ⟨rfl, h⟩ := h
  obtain ⟨l0, qh0, h⟩ := obind_some h
  obtain ⟨least1, qh1, h⟩ := obind_some h
  obtain ⟨most2, qh2, h⟩ := obind_some h
  rw [argV_eq ok qh0, argV_eq ok qh1, argV_eq ok qh2]
  exact call_of (phiE_nat _ _) hs ok mixed Try.func120 (c := impl_all_code) (by kernel_rfl) (impl_all_lo n) (by kernel_rfl) (by kernel_rfl) (by kernel_rfl) impl_all_de ((impl_all_tie n l0 least1 most2).trans h)
noncomputable def impl_Chart_place_code : Code := match Try.f122.body with | some c => c | none => .skip
def impl_Chart_place_ann : Ann := fun id => none
def impl_Chart_place_Ls (n : Nat) : Nat → Option (LSpec T) := fun id => none
theorem impl_Chart_place_tie (n : Nat) (c0 : SChart) (x1 : Int) (y2 : Int) : evF (T := T) (Phi n 34) (impl_Chart_place_Ls n) impl_Chart_place_ann n Try.f122 (sg 122) [vA T 63 c0, vA T 3 x1, vA T 3 y2] impl_Chart_place_dec = impl_Chart_place n c0 x1 y2 := by kernel_rfl
theorem impl_Chart_place_lo (n : Nat) : LoopsOk (T := T) (Phi n 34) (impl_Chart_place_Ls n) impl_Chart_place_ann n impl_Chart_place_code := loopsOk_all (cs := []) (by kernel_rfl) trivial
theorem impl_Chart_place_ok (n : Nat) : EntOk Try.prog (ents n) (impl_Chart_place_ent n) := by
  intro hs ar y hg h
  replace h : impl_Chart_place_D n ar = some y := h
  unfold impl_Chart_place_D at h
  replace h := ocons_some h
  obtain ⟨a0, r0, rfl, h⟩ := h
  replace h := ocons_some h
  obtain ⟨a1, r1, rfl, h⟩ := h
  replace h := ocons_some h
  obtain ⟨a2, r2, rfl, h⟩ := h
  replace h := onil_some h
  obtain ⟨rfl, h⟩ := h
  obtain ⟨c0, qh0, h⟩ := obind_some h
  obtain ⟨x1, qh1, h⟩ := obind_some h
  obtain ⟨y2, qh2, h⟩ := obind_some h
  rw [argV_eq ok qh0, argV_eq ok qh1, argV_eq ok qh2]
  exact call_of (phiE_nat _ _) hs ok mixed Try.func122 (c := impl_Chart_place_code) (by kernel_rfl) (impl_Chart_place_lo n) (by kernel_rfl) (by kernel_rfl) (by kernel_rfl) impl_Chart_place_de ((impl_Chart_place_tie n c0 x1 y2).trans h)
noncomputable def impl_Chart_featureOk_code : Code := match Try.f121.body with | some c => c | none => .skip
def impl_Chart_featureOk_ann : Ann := fun id => none
def impl_Chart_featureOk_Ls (n : Nat) : Nat → Option (LSpec T) := fun id => none
theorem impl_Chart_featureOk_tie (n : Nat) (c0 : SChart) (f1 : SFeature) : evF (T := T) (Phi n 35) (impl_Chart_featureOk_Ls n) impl_Chart_featureOk_ann n Try.f121 (sg 121) [vA T 63 c0, vA T 181 f1] impl_Chart_featureOk_dec = impl_Chart_featureOk n c0 f1 := by kernel_rfl
theorem impl_Chart_featureOk_lo (n : Nat) : LoopsOk (T := T) (Phi n 35) (impl_Chart_featureOk_Ls n) impl_Chart_featureOk_ann n impl_Chart_featureOk_code := loopsOk_all (cs := []) (by kernel_rfl) trivial
theorem impl_Chart_featureOk_ok (n : Nat) : EntOk Try.prog (ents n) (impl_Chart_featureOk_ent n) := by
  intro hs ar y hg h
  replace h : impl_Chart_featureOk_D n ar = some y := h
  unfold impl_Chart_featureOk_D at h
  replace h := ocons_some h
  obtain ⟨a0, r0, rfl, h⟩ := h
  replace h := ocons_some h
  obtain ⟨a1, r1, rfl, h⟩ := h
  replace h := onil_some h
  obtain ⟨rfl, h⟩ := h
  obtain ⟨c0, qh0, h⟩ := obind_some h
  obtain ⟨f1, qh1, h⟩ := obind_some h
  rw [argV_eq ok qh0, argV_eq ok qh1]
  exact call_of (phiE_nat _ _) hs ok mixed Try.func121 (c := impl_Chart_featureOk_code) (by kernel_rfl) (impl_Chart_featureOk_lo n) (by kernel_rfl) (by kernel_rfl) (by kernel_rfl) impl_Chart_featureOk_de ((impl_Chart_featureOk_tie n c0 f1).trans h)
noncomputable def impl_ChartOk_code : Code := match Try.f44.body with | some c => c | none => .skip
def impl_ChartOk_4_sv : List Sv := [.one (.ptr 8 0 0), .one (.arr 181), .one (.int .i64), .one (.int .i64)]
def impl_ChartOk_4_so : List So := [.var [.int .i64, .int .i64, .arr 3, .arr 181, .int .i64]]
def impl_ChartOk_4_emb (c : List SFeature × Int × SChart) (x : Int) : EVs T impl_ChartOk_4_sv × EOs T impl_ChartOk_4_so := (((), c.1, c.2.1, x, ()), ((c.2.2.Wide, c.2.2.High, c.2.2.Depths, c.2.2.Features, c.2.2.Edition, ()), ()))
def impl_ChartOk_4_prj (y : EVs T impl_ChartOk_4_sv × EOs T impl_ChartOk_4_so) : (List SFeature × Int × SChart) × Int := ((y.1.2.1, y.1.2.2.1, ((⟨y.2.1.1, y.2.1.2.1, y.2.1.2.2.1, y.2.1.2.2.2.1, y.2.1.2.2.2.2.1⟩ : SChart) : SChart)), (y.1.2.2.2.1))
def impl_ChartOk_4_b (n : Nat) {R : Type} (K : Ex → Sm.St T → Option R) (c : List SFeature × Int × SChart) (x : Int) (J : Int → Option R) : Option R :=
  impl_ChartOk_L4 n (K (.exit 0) (stOf (T := T) [] [] [] [] () ())) (fun (y0 : Bool) => K .ret (stOf (T := T) [2] [] [.one (.bool)] [] (y0, ()) ())) J c.1 c.2.1 x c.2.2
def impl_ChartOk_4_sp (n : Nat) : LSpec T := mkSpec T ⟨[], [1, 45, 46, 47], [8]⟩ impl_ChartOk_4_sv impl_ChartOk_4_so (List SFeature × Int × SChart) (Int) impl_ChartOk_4_emb impl_ChartOk_4_prj (impl_ChartOk_4_b n)
noncomputable def impl_ChartOk_4_c : Code := ((loopCodes impl_ChartOk_code)[0]?).getD .skip
def impl_ChartOk_ann : Ann := fun id => bif Nat.beq id 3000004 then some ⟨[], [], []⟩ else bif Nat.beq id 2000004 then some ⟨[], [2], []⟩ else none
def impl_ChartOk_Ls (n : Nat) : Nat → Option (LSpec T) := fun id => bif Nat.beq id 4 then some (impl_ChartOk_4_sp n) else none
theorem impl_ChartOk_4_le (n : Nat) : LoopEq (T := T) (Phi n 36) (impl_ChartOk_Ls n) impl_ChartOk_ann n impl_ChartOk_4_c (impl_ChartOk_4_sp n) := ⟨mkSpec_dec (fun y => rfl), fun c x => by kernel_rfl, fun K J c x => by kernel_rfl⟩
theorem impl_ChartOk_tie (n : Nat) (c0 : SChart) : evF (T := T) (Phi n 36) (impl_ChartOk_Ls n) impl_ChartOk_ann n Try.f44 (sg 44) [vA T 63 c0] impl_ChartOk_dec = impl_ChartOk n c0 := by kernel_rfl
theorem impl_ChartOk_lo (n : Nat) : LoopsOk (T := T) (Phi n 36) (impl_ChartOk_Ls n) impl_ChartOk_ann n impl_ChartOk_code := loopsOk_all (cs := [impl_ChartOk_4_c]) (by kernel_rfl) ⟨⟨_, by kernel_rfl, impl_ChartOk_4_le n⟩, trivial⟩
theorem impl_ChartOk_ok (n : Nat) : EntOk Try.prog (ents n) (impl_ChartOk_ent n) := by
  intro hs ar y hg h
  replace h : impl_ChartOk_D n ar = some y := h
  unfold impl_ChartOk_D at h
  replace h := ocons_some h
  obtain ⟨a0, r0, rfl, h⟩ := h
  replace h := onil_some h
  obtain ⟨rfl, h⟩ := h
  obtain ⟨c0, qh0, h⟩ := obind_some h
  rw [argV_eq ok qh0]
  exact call_of (phiE_nat _ _) hs ok mixed Try.func44 (c := impl_ChartOk_code) (by kernel_rfl) (impl_ChartOk_lo n) (by kernel_rfl) (by kernel_rfl) (by kernel_rfl) impl_ChartOk_de ((impl_ChartOk_tie n c0).trans h)
noncomputable def impl_Chart_note_1_code : Code := match Try.f205.body with | some c => c | none => .skip
def impl_Chart_note_1_ann : Ann := fun id => none
def impl_Chart_note_1_Ls (n : Nat) : Nat → Option (LSpec T) := fun id => none
theorem impl_Chart_note_1_tie (n : Nat) (f0 : SFeature) (a1 : SNote) : evF (T := T) (Phi n 37) (impl_Chart_note_1_Ls n) impl_Chart_note_1_ann n Try.f205 (sg 205) [vA T 181 f0, .ptr 196 a1] impl_Chart_note_1_dec = impl_Chart_note_1 n f0 a1 := by kernel_rfl
theorem impl_Chart_note_1_lo (n : Nat) : LoopsOk (T := T) (Phi n 37) (impl_Chart_note_1_Ls n) impl_Chart_note_1_ann n impl_Chart_note_1_code := loopsOk_all (cs := []) (by kernel_rfl) trivial
theorem impl_Chart_note_1_ok (n : Nat) : EntOk Try.prog (ents n) (impl_Chart_note_1_ent n) := by
  intro hs ar y hg h
  replace h : impl_Chart_note_1_D n ar = some y := h
  unfold impl_Chart_note_1_D at h
  replace h := ocons_some h
  obtain ⟨a0, r0, rfl, h⟩ := h
  replace h := ocons_some h
  obtain ⟨a1, r1, rfl, h⟩ := h
  replace h := onil_some h
  obtain ⟨rfl, h⟩ := h
  obtain ⟨f0, qh0, h⟩ := obind_some h
  obtain ⟨a1, qh1, h⟩ := obind_some h
  rw [argV_eq ok qh0, argP_eq qh1]
  exact call_of (phiE_nat _ _) hs ok mixed Try.func205 (c := impl_Chart_note_1_code) (by kernel_rfl) (impl_Chart_note_1_lo n) (by kernel_rfl) (by kernel_rfl) (by kernel_rfl) impl_Chart_note_1_de ((impl_Chart_note_1_tie n f0 a1).trans h)
noncomputable def slices_IndexFunc_impl_Feature_impl_Feature__impl_Chart_note_1_code : Code := match Try.f204.body with | some c => c | none => .skip
def slices_IndexFunc_impl_Feature_impl_Feature__impl_Chart_note_1_2_sv : List Sv := [.one (.arr 181), .one (.fnr 205 [196]), .one (.int .i64), .one (.int .i64)]
def slices_IndexFunc_impl_Feature_impl_Feature__impl_Chart_note_1_2_so : List So := []
def slices_IndexFunc_impl_Feature_impl_Feature__impl_Chart_note_1_2_emb (c : List SFeature × SNote × Int) (x : Int) : EVs T slices_IndexFunc_impl_Feature_impl_Feature__impl_Chart_note_1_2_sv × EOs T slices_IndexFunc_impl_Feature_impl_Feature__impl_Chart_note_1_2_so := ((c.1, (c.2.1, ()), c.2.2, x, ()), ())
def slices_IndexFunc_impl_Feature_impl_Feature__impl_Chart_note_1_2_prj (y : EVs T slices_IndexFunc_impl_Feature_impl_Feature__impl_Chart_note_1_2_sv × EOs T slices_IndexFunc_impl_Feature_impl_Feature__impl_Chart_note_1_2_so) : (List SFeature × SNote × Int) × Int := ((y.1.1, y.1.2.1.1, y.1.2.2.1), (y.1.2.2.2.1))
def slices_IndexFunc_impl_Feature_impl_Feature__impl_Chart_note_1_2_b (n : Nat) {R : Type} (K : Ex → Sm.St T → Option R) (c : List SFeature × SNote × Int) (x : Int) (J : Int → Option R) : Option R :=
  slices_IndexFunc_impl_Feature_impl_Feature__impl_Chart_note_1_L2 n (K (.exit 0) (stOf (T := T) [] [] [] [] () ())) (fun (y0 : Int) => K .ret (stOf (T := T) [4] [] [.one (.int .i64)] [] (y0, ()) ())) J c.1 c.2.1 c.2.2 x
def slices_IndexFunc_impl_Feature_impl_Feature__impl_Chart_note_1_2_sp (n : Nat) : LSpec T := mkSpec T ⟨[], [0, 1, 7, 8], []⟩ slices_IndexFunc_impl_Feature_impl_Feature__impl_Chart_note_1_2_sv slices_IndexFunc_impl_Feature_impl_Feature__impl_Chart_note_1_2_so (List SFeature × SNote × Int) (Int) slices_IndexFunc_impl_Feature_impl_Feature__impl_Chart_note_1_2_emb slices_IndexFunc_impl_Feature_impl_Feature__impl_Chart_note_1_2_prj (slices_IndexFunc_impl_Feature_impl_Feature__impl_Chart_note_1_2_b n)
noncomputable def slices_IndexFunc_impl_Feature_impl_Feature__impl_Chart_note_1_2_c : Code := ((loopCodes slices_IndexFunc_impl_Feature_impl_Feature__impl_Chart_note_1_code)[0]?).getD .skip
def slices_IndexFunc_impl_Feature_impl_Feature__impl_Chart_note_1_ann : Ann := fun id => bif Nat.beq id 3000002 then some ⟨[], [], []⟩ else bif Nat.beq id 2000002 then some ⟨[], [4], []⟩ else none
def slices_IndexFunc_impl_Feature_impl_Feature__impl_Chart_note_1_Ls (n : Nat) : Nat → Option (LSpec T) := fun id => bif Nat.beq id 2 then some (slices_IndexFunc_impl_Feature_impl_Feature__impl_Chart_note_1_2_sp n) else none
theorem slices_IndexFunc_impl_Feature_impl_Feature__impl_Chart_note_1_2_le (n : Nat) : LoopEq (T := T) (Phi n 38) (slices_IndexFunc_impl_Feature_impl_Feature__impl_Chart_note_1_Ls n) slices_IndexFunc_impl_Feature_impl_Feature__impl_Chart_note_1_ann n slices_IndexFunc_impl_Feature_impl_Feature__impl_Chart_note_1_2_c (slices_IndexFunc_impl_Feature_impl_Feature__impl_Chart_note_1_2_sp n) := ⟨mkSpec_dec (fun y => rfl), fun c x => by kernel_rfl, fun K J c x => by kernel_rfl⟩
theorem slices_IndexFunc_impl_Feature_impl_Feature__impl_Chart_note_1_tie (n : Nat) (s0 : List SFeature) (f1c0 : SNote) : evF (T := T) (Phi n 38) (slices_IndexFunc_impl_Feature_impl_Feature__impl_Chart_note_1_Ls n) slices_IndexFunc_impl_Feature_impl_Feature__impl_Chart_note_1_ann n Try.f204 (sg 204) [vA T 61 s0, .fn 205 [.ptr 196 f1c0]] slices_IndexFunc_impl_Feature_impl_Feature__impl_Chart_note_1_dec = slices_IndexFunc_impl_Feature_impl_Feature__impl_Chart_note_1 n s0 f1c0 := by kernel_rfl
theorem slices_IndexFunc_impl_Feature_impl_Feature__impl_Chart_note_1_lo (n : Nat) : LoopsOk (T := T) (Phi n 38) (slices_IndexFunc_impl_Feature_impl_Feature__impl_Chart_note_1_Ls n) slices_IndexFunc_impl_Feature_impl_Feature__impl_Chart_note_1_ann n slices_IndexFunc_impl_Feature_impl_Feature__impl_Chart_note_1_code := loopsOk_all (cs := [slices_IndexFunc_impl_Feature_impl_Feature__impl_Chart_note_1_2_c]) (by kernel_rfl) ⟨⟨_, by kernel_rfl, slices_IndexFunc_impl_Feature_impl_Feature__impl_Chart_note_1_2_le n⟩, trivial⟩
theorem slices_IndexFunc_impl_Feature_impl_Feature__impl_Chart_note_1_ok (n : Nat) : EntOk Try.prog (ents n) (slices_IndexFunc_impl_Feature_impl_Feature__impl_Chart_note_1_ent n) := by
  intro hs ar y hg h
  replace h : slices_IndexFunc_impl_Feature_impl_Feature__impl_Chart_note_1_D n ar = some y := h
  unfold slices_IndexFunc_impl_Feature_impl_Feature__impl_Chart_note_1_D at h
  split at h
  · obtain ⟨s0, qh0, h⟩ := obind_some h
    obtain ⟨f1c0, qh1, h⟩ := obind_some h
    rw [argV_eq ok qh0, argP_eq qh1] at hg ⊢
    cases (show [_] = [205] from natsEq_eq hg)
    exact call_of (phiE_nat _ _) hs ok mixed Try.func204 (c := slices_IndexFunc_impl_Feature_impl_Feature__impl_Chart_note_1_code) (by kernel_rfl) (slices_IndexFunc_impl_Feature_impl_Feature__impl_Chart_note_1_lo n) (by kernel_rfl) (by kernel_rfl) (by kernel_rfl) slices_IndexFunc_impl_Feature_impl_Feature__impl_Chart_note_1_de ((slices_IndexFunc_impl_Feature_impl_Feature__impl_Chart_note_1_tie n s0 f1c0).trans h)
  · cases h
noncomputable def impl_Chart_note_2_code : Code := match Try.f207.body with | some c => c | none => .skip
def impl_Chart_note_2_ann : Ann := fun id => none
def impl_Chart_note_2_Ls (n : Nat) : Nat → Option (LSpec T) := fun id => none
theorem impl_Chart_note_2_tie (n : Nat) (a0 : SFeature) (b1 : SFeature) : evF (T := T) (Phi n 39) (impl_Chart_note_2_Ls n) impl_Chart_note_2_ann n Try.f207 (sg 207) [vA T 181 a0, vA T 181 b1] impl_Chart_note_2_dec = impl_Chart_note_2 n a0 b1 := by kernel_rfl
theorem impl_Chart_note_2_lo (n : Nat) : LoopsOk (T := T) (Phi n 39) (impl_Chart_note_2_Ls n) impl_Chart_note_2_ann n impl_Chart_note_2_code := loopsOk_all (cs := []) (by kernel_rfl) trivial
theorem impl_Chart_note_2_ok (n : Nat) : EntOk Try.prog (ents n) (impl_Chart_note_2_ent n) := by
  intro hs ar y hg h
  replace h : impl_Chart_note_2_D n ar = some y := h
  unfold impl_Chart_note_2_D at h
  replace h := ocons_some h
  obtain ⟨a0, r0, rfl, h⟩ := h
  replace h := ocons_some h
  obtain ⟨a1, r1, rfl, h⟩ := h
  replace h := onil_some h
  obtain ⟨rfl, h⟩ := h
  obtain ⟨a0, qh0, h⟩ := obind_some h
  obtain ⟨b1, qh1, h⟩ := obind_some h
  rw [argV_eq ok qh0, argV_eq ok qh1]
  exact call_of (phiE_nat _ _) hs ok mixed Try.func207 (c := impl_Chart_note_2_code) (by kernel_rfl) (impl_Chart_note_2_lo n) (by kernel_rfl) (by kernel_rfl) (by kernel_rfl) impl_Chart_note_2_de ((impl_Chart_note_2_tie n a0 b1).trans h)
theorem slices_SortFunc_impl_Feature_impl_Feature__impl_Chart_note_2_cl (n : Nat) (x y : U 181) : PhiE (T := T) (ents n) 40 207 [vA T 181 x, vA T 181 y] some = (impl_Chart_note_2 n x y).bind fun r => some (impl_Chart_note_2_enc r) := by kernel_rfl
theorem slices_SortFunc_impl_Feature_impl_Feature__impl_Chart_note_2_ok (n : Nat) : EntOk Try.prog (ents n) (slices_SortFunc_impl_Feature_impl_Feature__impl_Chart_note_2_ent n) := by
  intro hs ar y hg h
  replace h : slices_SortFunc_impl_Feature_impl_Feature__impl_Chart_note_2_D n ar = some y := h
  unfold slices_SortFunc_impl_Feature_impl_Feature__impl_Chart_note_2_D at h
  split at h
  · obtain ⟨l0, qh0, h⟩ := obind_some h
    rw [argV_eq ok qh0] at hg ⊢
    cases (show [_] = [207] from natsEq_eq hg)
    refine sortL_call ok lay206 (e := 181) (g := 207) (caps := []) (by kernel_rfl) (by kernel_rfl) (by decide) (by kernel_rfl) (by kernel_rfl) (by kernel_rfl) (by kernel_rfl) (fun x y c hc => ?_) h
    have h1 : PhiE (T := T) (ents n) 40 207 [vA T 181 x, vA T 181 y] some = some (impl_Chart_note_2_enc c) := (slices_SortFunc_impl_Feature_impl_Feature__impl_Chart_note_2_cl n x y).trans (by rw [show impl_Chart_note_2 n x y = some c from hc]; rfl)
    obtain ⟨res, h2, h3⟩ := hs _ _ _ _ h1
    cases h3
    exact h2
  · cases h
theorem slices_Delete_impl_Feature_impl_Feature_ok (n : Nat) : EntOk Try.prog (ents n) (slices_Delete_impl_Feature_impl_Feature_ent n) := by
  intro hs ar y hg h
  replace h : slices_Delete_impl_Feature_impl_Feature_D n ar = some y := h
  unfold slices_Delete_impl_Feature_impl_Feature_D at h
  replace h := ocons_some h
  obtain ⟨a0, r1, rfl, h⟩ := h
  replace h := ocons_some h
  obtain ⟨a1, r2, rfl, h⟩ := h
  replace h := ocons_some h
  obtain ⟨a2, r3, rfl, h⟩ := h
  replace h := onil_some h
  obtain ⟨rfl, h⟩ := h
  replace h := obind_some h
  obtain ⟨l0, qh0, h⟩ := h
  replace h := obind_some h
  obtain ⟨i1, qh1, h⟩ := h
  replace h := obind_some h
  obtain ⟨j2, qh2, h⟩ := h
  replace h : delL l0 i1 j2 = some y := h
  rw [argV_eq ok qh0, argV_eq ok qh1, argV_eq ok qh2]
  exact delL_call ok dlay208 (e := 181) (by kernel_rfl) (by decide) (by kernel_rfl) (by kernel_rfl) h
noncomputable def impl_depthOk_code : Code := match Try.f209.body with | some c => c | none => .skip
def impl_depthOk_ann : Ann := fun id => none
def impl_depthOk_Ls (n : Nat) : Nat → Option (LSpec T) := fun id => none
theorem impl_depthOk_tie (n : Nat) (d0 : Int) : evF (T := T) (Phi n 42) (impl_depthOk_Ls n) impl_depthOk_ann n Try.f209 (sg 209) [vA T 3 d0] impl_depthOk_dec = impl_depthOk n d0 := by kernel_rfl
theorem impl_depthOk_lo (n : Nat) : LoopsOk (T := T) (Phi n 42) (impl_depthOk_Ls n) impl_depthOk_ann n impl_depthOk_code := loopsOk_all (cs := []) (by kernel_rfl) trivial
theorem impl_depthOk_ok (n : Nat) : EntOk Try.prog (ents n) (impl_depthOk_ent n) := by
  intro hs ar y hg h
  replace h : impl_depthOk_D n ar = some y := h
  unfold impl_depthOk_D at h
  replace h := ocons_some h
  obtain ⟨a0, r0, rfl, h⟩ := h
  replace h := onil_some h
  obtain ⟨rfl, h⟩ := h
  obtain ⟨d0, qh0, h⟩ := obind_some h
  rw [argV_eq ok qh0]
  exact call_of (phiE_nat _ _) hs ok mixed Try.func209 (c := impl_depthOk_code) (by kernel_rfl) (impl_depthOk_lo n) (by kernel_rfl) (by kernel_rfl) (by kernel_rfl) impl_depthOk_de ((impl_depthOk_tie n d0).trans h)
noncomputable def impl_Chart_note_code : Code := match Try.f134.body with | some c => c | none => .skip
def impl_Chart_note_ann : Ann := fun id => none
def impl_Chart_note_Ls (n : Nat) : Nat → Option (LSpec T) := fun id => none
theorem impl_Chart_note_tie (n : Nat) (c0 : SChart) (n1 : SNote) : evF (T := T) (Phi n 43) (impl_Chart_note_Ls n) impl_Chart_note_ann n Try.f134 (sg 134) [.ptr 63 c0, vA T 196 n1] impl_Chart_note_dec = impl_Chart_note n c0 n1 := by kernel_rfl
theorem impl_Chart_note_lo (n : Nat) : LoopsOk (T := T) (Phi n 43) (impl_Chart_note_Ls n) impl_Chart_note_ann n impl_Chart_note_code := loopsOk_all (cs := []) (by kernel_rfl) trivial
theorem impl_Chart_note_ok (n : Nat) : EntOk Try.prog (ents n) (impl_Chart_note_ent n) := by
  intro hs ar y hg h
  replace h : impl_Chart_note_D n ar = some y := h
  unfold impl_Chart_note_D at h
  replace h := ocons_some h
  obtain ⟨a0, r0, rfl, h⟩ := h
  replace h := ocons_some h
  obtain ⟨a1, r1, rfl, h⟩ := h
  replace h := onil_some h
  obtain ⟨rfl, h⟩ := h
  obtain ⟨c0, qh0, h⟩ := obind_some h
  obtain ⟨n1, qh1, h⟩ := obind_some h
  rw [argP_eq qh0, argV_eq ok qh1]
  exact call_of (phiE_nat _ _) hs ok mixed Try.func134 (c := impl_Chart_note_code) (by kernel_rfl) (impl_Chart_note_lo n) (by kernel_rfl) (by kernel_rfl) (by kernel_rfl) impl_Chart_note_de ((impl_Chart_note_tie n c0 n1).trans h)
noncomputable def impl_Apply6_code : Code := match Try.f52.body with | some c => c | none => .skip
def impl_Apply6_12_sv : List Sv := [.one (.ptr 24 0 0), .one (.ptr 32 0 0), .one (.ptr 48 0 0), .one (.ptr 56 0 0), .one (.arr 196), .one (.int .i64), .one (.int .i64)]
def impl_Apply6_12_so : List So := [.var [.int .i64, .arr 196], .var [.int .i64, .int .i64, .own 3000000 3 false, .own 3000001 181 false, .int .i64], .arr 3 false, .arr 181 false, .var [.int .i64, .int .i64, .own 3000002 3 false, .own 3000003 181 false, .int .i64], .arr 3 false, .arr 181 false, .var [.int .i64, .int .i64, .own 3000004 3 false, .own 3000005 181 false, .int .i64], .arr 3 false, .arr 181 false]
def impl_Apply6_12_emb (c : List SNote × Int × SUpdate × Int × Int × Int × List Int × List SFeature × Int × Int × Int × List Int × List SFeature) (x : Int × Int × Int × Int × List Int × List SFeature) : EVs T impl_Apply6_12_sv × EOs T impl_Apply6_12_so := (((), (), (), (), c.1, c.2.1, x.1, ()), ((c.2.2.1.Edition, c.2.2.1.Notes, ()), (c.2.2.2.1, c.2.2.2.2.1, (), (), c.2.2.2.2.2.1, ()), c.2.2.2.2.2.2.1, c.2.2.2.2.2.2.2.1, (c.2.2.2.2.2.2.2.2.1, c.2.2.2.2.2.2.2.2.2.1, (), (), c.2.2.2.2.2.2.2.2.2.2.1, ()), c.2.2.2.2.2.2.2.2.2.2.2.1, c.2.2.2.2.2.2.2.2.2.2.2.2, (x.2.1, x.2.2.1, (), (), x.2.2.2.1, ()), x.2.2.2.2.1, x.2.2.2.2.2, ()))
def impl_Apply6_12_prj (y : EVs T impl_Apply6_12_sv × EOs T impl_Apply6_12_so) : (List SNote × Int × SUpdate × Int × Int × Int × List Int × List SFeature × Int × Int × Int × List Int × List SFeature) × (Int × Int × Int × Int × List Int × List SFeature) := ((y.1.2.2.2.2.1, y.1.2.2.2.2.2.1, ((⟨y.2.1.1, y.2.1.2.1⟩ : SUpdate) : SUpdate), y.2.2.1.1, y.2.2.1.2.1, y.2.2.1.2.2.2.2.1, y.2.2.2.1, y.2.2.2.2.1, y.2.2.2.2.2.1.1, y.2.2.2.2.2.1.2.1, y.2.2.2.2.2.1.2.2.2.2.1, y.2.2.2.2.2.2.1, y.2.2.2.2.2.2.2.1), (y.1.2.2.2.2.2.2.1, y.2.2.2.2.2.2.2.2.1.1, y.2.2.2.2.2.2.2.2.1.2.1, y.2.2.2.2.2.2.2.2.1.2.2.2.2.1, y.2.2.2.2.2.2.2.2.2.1, y.2.2.2.2.2.2.2.2.2.2.1))
def impl_Apply6_12_b (n : Nat) {R : Type} (K : Ex → Sm.St T → Option R) (c : List SNote × Int × SUpdate × Int × Int × Int × List Int × List SFeature × Int × Int × Int × List Int × List SFeature) (x : Int × Int × Int × Int × List Int × List SFeature) (J : (Int × Int × Int × Int × List Int × List SFeature) → Option R) : Option R :=
  impl_Apply6_L12 n (fun (y6 : Int) (y7 : Int) (y8 : Int) (y9 : List Int) (y10 : List SFeature) => K (.exit 1) (stOf (T := T) [3, 4, 7] [24, 32, 3000000, 3000001, 56, 3000004, 3000005] [.one (.ptr 24 0 0), .one (.ptr 32 0 0), .one (.ptr 56 0 0)] [.var [.int .i64, .arr 196], .var [.int .i64, .int .i64, .own 3000000 3 false, .own 3000001 181 false, .int .i64], .arr 3 false, .arr 181 false, .var [.int .i64, .int .i64, .own 3000004 3 false, .own 3000005 181 false, .int .i64], .arr 3 false, .arr 181 false] ((), (), (), ()) ((c.2.2.1.Edition, c.2.2.1.Notes, ()), (c.2.2.2.1, c.2.2.2.2.1, (), (), c.2.2.2.2.2.1, ()), c.2.2.2.2.2.2.1, c.2.2.2.2.2.2.2.1, (y6, y7, (), (), y8, ()), y9, y10, ()))) (fun (y0 : Int) => K .ret (stOf (T := T) [4, 5] [32, 3000000, 3000001] [.one (.ptr 32 0 0), .one (.int .i64)] [.var [.int .i64, .int .i64, .own 3000000 3 false, .own 3000001 181 false, .int .i64], .arr 3 false, .arr 181 false] ((), y0, ()) ((c.2.2.2.2.2.2.2.2.1, c.2.2.2.2.2.2.2.2.2.1, (), (), c.2.2.2.2.2.2.2.2.2.2.1, ()), c.2.2.2.2.2.2.2.2.2.2.2.1, c.2.2.2.2.2.2.2.2.2.2.2.2, ()))) (fun z0 z1 z2 z3 z4 z5 => J (z0, z1, z2, z3, z4, z5)) c.1 c.2.1 x.1 c.2.2.1 c.2.2.2.1 c.2.2.2.2.1 c.2.2.2.2.2.1 c.2.2.2.2.2.2.1 c.2.2.2.2.2.2.2.1 c.2.2.2.2.2.2.2.2.1 c.2.2.2.2.2.2.2.2.2.1 c.2.2.2.2.2.2.2.2.2.2.1 c.2.2.2.2.2.2.2.2.2.2.2.1 c.2.2.2.2.2.2.2.2.2.2.2.2 x.2.1 x.2.2.1 x.2.2.2.1 x.2.2.2.2.1 x.2.2.2.2.2
def impl_Apply6_12_sp (n : Nat) : LSpec T := mkSpec T ⟨[((.cell 32 2), 3000000, 3), ((.cell 32 3), 3000001, 181), ((.cell 48 2), 3000002, 3), ((.cell 48 3), 3000003, 181), ((.cell 56 2), 3000004, 3), ((.cell 56 3), 3000005, 181)], [3, 4, 6, 7, 47, 48, 49], [24, 32, 3000000, 3000001, 48, 3000002, 3000003, 56, 3000004, 3000005]⟩ impl_Apply6_12_sv impl_Apply6_12_so (List SNote × Int × SUpdate × Int × Int × Int × List Int × List SFeature × Int × Int × Int × List Int × List SFeature) (Int × Int × Int × Int × List Int × List SFeature) impl_Apply6_12_emb impl_Apply6_12_prj (impl_Apply6_12_b n)
noncomputable def impl_Apply6_12_c : Code := ((loopCodes impl_Apply6_code)[0]?).getD .skip
def impl_Apply6_ann : Ann := fun id => bif Nat.beq id 4000012 then some ⟨[((.cell 32 2), 3000000, 3), ((.cell 32 3), 3000001, 181), ((.cell 56 2), 3000004, 3), ((.cell 56 3), 3000005, 181)], [3, 4, 7], [24, 32, 3000000, 3000001, 56, 3000004, 3000005]⟩ else bif Nat.beq id 2000012 then some ⟨[((.cell 32 2), 3000000, 3), ((.cell 32 3), 3000001, 181)], [4, 5], [32, 3000000, 3000001]⟩ else none
def impl_Apply6_Ls (n : Nat) : Nat → Option (LSpec T) := fun id => bif Nat.beq id 12 then some (impl_Apply6_12_sp n) else none
theorem impl_Apply6_12_le (n : Nat) : LoopEq (T := T) (Phi n 44) (impl_Apply6_Ls n) impl_Apply6_ann n impl_Apply6_12_c (impl_Apply6_12_sp n) := ⟨mkSpec_dec (fun y => rfl), fun c x => by kernel_rfl, fun K J c x => by kernel_rfl⟩
theorem impl_Apply6_tie (n : Nat) (c0 : SChart) (u1 : SUpdate) : evF (T := T) (Phi n 44) (impl_Apply6_Ls n) impl_Apply6_ann n Try.f52 (sg 52) [vA T 63 c0, vA T 85 u1] impl_Apply6_dec = impl_Apply6 n c0 u1 := by kernel_rfl
theorem impl_Apply6_lo (n : Nat) : LoopsOk (T := T) (Phi n 44) (impl_Apply6_Ls n) impl_Apply6_ann n impl_Apply6_code := loopsOk_all (cs := [impl_Apply6_12_c]) (by kernel_rfl) ⟨⟨_, by kernel_rfl, impl_Apply6_12_le n⟩, trivial⟩
theorem impl_Apply6_ok (n : Nat) : EntOk Try.prog (ents n) (impl_Apply6_ent n) := by
  intro hs ar y hg h
  replace h : impl_Apply6_D n ar = some y := h
  unfold impl_Apply6_D at h
  replace h := ocons_some h
  obtain ⟨a0, r0, rfl, h⟩ := h
  replace h := ocons_some h
  obtain ⟨a1, r1, rfl, h⟩ := h
  replace h := onil_some h
  obtain ⟨rfl, h⟩ := h
  obtain ⟨c0, qh0, h⟩ := obind_some h
  obtain ⟨u1, qh1, h⟩ := obind_some h
  rw [argV_eq ok qh0, argV_eq ok qh1]
  exact call_of (phiE_nat _ _) hs ok mixed Try.func52 (c := impl_Apply6_code) (by kernel_rfl) (impl_Apply6_lo n) (by kernel_rfl) (by kernel_rfl) (by kernel_rfl) impl_Apply6_de ((impl_Apply6_tie n c0 u1).trans h)
noncomputable def impl_Catch_code : Code := match Try.f59.body with | some c => c | none => .skip
def impl_Catch_6_sv : List Sv := [.one (.arr 85), .one (.ptr 16 0 0), .one (.ptr 32 0 0), .one (.own 3000000 4 false), .one (.bool)]
def impl_Catch_6_so : List So := [.var [.int .i64, .int .i64, .own 3000001 3 false, .own 3000002 181 false, .int .i64], .arr 3 false, .arr 181 false, .var [.int .i64, .int .i64, .own 3000003 3 false, .own 3000004 181 false, .int .i64], .arr 3 false, .arr 181 false, .arr 4 false]
def impl_Catch_6_emb (c : List SUpdate × Int × Int × Int × List Int × List SFeature) (x : Bool × Int × Int × Int × List Int × List SFeature × List Bool) : EVs T impl_Catch_6_sv × EOs T impl_Catch_6_so := ((c.1, (), (), (), x.1, ()), ((x.2.1, x.2.2.1, (), (), x.2.2.2.1, ()), x.2.2.2.2.1, x.2.2.2.2.2.1, (c.2.1, c.2.2.1, (), (), c.2.2.2.1, ()), c.2.2.2.2.1, c.2.2.2.2.2, x.2.2.2.2.2.2, ()))
def impl_Catch_6_prj (y : EVs T impl_Catch_6_sv × EOs T impl_Catch_6_so) : (List SUpdate × Int × Int × Int × List Int × List SFeature) × (Bool × Int × Int × Int × List Int × List SFeature × List Bool) := ((y.1.1, y.2.2.2.2.1.1, y.2.2.2.2.1.2.1, y.2.2.2.2.1.2.2.2.2.1, y.2.2.2.2.2.1, y.2.2.2.2.2.2.1), (y.1.2.2.2.2.1, y.2.1.1, y.2.1.2.1, y.2.1.2.2.2.2.1, y.2.2.1, y.2.2.2.1, y.2.2.2.2.2.2.2.1))
def impl_Catch_6_b (n : Nat) {R : Type} (K : Ex → Sm.St T → Option R) (c : List SUpdate × Int × Int × Int × List Int × List SFeature) (x : Bool × Int × Int × Int × List Int × List SFeature × List Bool) (J : (Bool × Int × Int × Int × List Int × List SFeature × List Bool) → Option R) : Option R :=
  impl_Catch_L6 n (fun (y0 : Int) (y1 : Int) (y2 : Int) (y3 : List Int) (y4 : List SFeature) (y10 : List Bool) => K (.exit 0) (stOf (T := T) [2, 4, 6] [16, 3000001, 3000002, 32, 3000003, 3000004, 3000000] [.one (.ptr 16 0 0), .one (.ptr 32 0 0), .one (.own 3000000 4 false)] [.var [.int .i64, .int .i64, .own 3000001 3 false, .own 3000002 181 false, .int .i64], .arr 3 false, .arr 181 false, .var [.int .i64, .int .i64, .own 3000003 3 false, .own 3000004 181 false, .int .i64], .arr 3 false, .arr 181 false, .arr 4 false] ((), (), (), ()) ((y0, y1, (), (), y2, ()), y3, y4, (c.2.1, c.2.2.1, (), (), c.2.2.2.1, ()), c.2.2.2.2.1, c.2.2.2.2.2, y10, ()))) (fun z0 z1 z2 z3 z4 z5 z6 => J (z0, z1, z2, z3, z4, z5, z6)) c.1 x.1 x.2.1 x.2.2.1 x.2.2.2.1 x.2.2.2.2.1 x.2.2.2.2.2.1 c.2.1 c.2.2.1 c.2.2.2.1 c.2.2.2.2.1 c.2.2.2.2.2 x.2.2.2.2.2.2
def impl_Catch_6_sp (n : Nat) : LSpec T := mkSpec T ⟨[((.reg 6), 3000000, 4), ((.cell 16 2), 3000001, 3), ((.cell 16 3), 3000002, 181), ((.cell 32 2), 3000003, 3), ((.cell 32 3), 3000004, 181)], [1, 2, 4, 6, 7], [16, 3000001, 3000002, 32, 3000003, 3000004, 3000000]⟩ impl_Catch_6_sv impl_Catch_6_so (List SUpdate × Int × Int × Int × List Int × List SFeature) (Bool × Int × Int × Int × List Int × List SFeature × List Bool) impl_Catch_6_emb impl_Catch_6_prj (impl_Catch_6_b n)
noncomputable def impl_Catch_6_c : Code := ((loopCodes impl_Catch_code)[0]?).getD .skip
def impl_Catch_9_sv : List Sv := [.one (.arr 85), .one (.ptr 16 0 0), .one (.ptr 32 0 0), .one (.own 3000000 4 false), .one (.bool), .one (.arr 85), .one (.int .i64), .one (.int .i64)]
def impl_Catch_9_so : List So := [.var [.int .i64, .int .i64, .own 3000001 3 false, .own 3000002 181 false, .int .i64], .arr 3 false, .arr 181 false, .var [.int .i64, .int .i64, .own 3000003 3 false, .own 3000004 181 false, .int .i64], .arr 3 false, .arr 181 false, .arr 4 false]
def impl_Catch_9_emb (c : List SUpdate × Bool × List SUpdate × Int × Int × Int × Int × List Int × List SFeature × Int × Int × Int × List Int × List SFeature × List Bool) (x : Int) : EVs T impl_Catch_9_sv × EOs T impl_Catch_9_so := ((c.1, (), (), (), c.2.1, c.2.2.1, c.2.2.2.1, x, ()), ((c.2.2.2.2.1, c.2.2.2.2.2.1, (), (), c.2.2.2.2.2.2.1, ()), c.2.2.2.2.2.2.2.1, c.2.2.2.2.2.2.2.2.1, (c.2.2.2.2.2.2.2.2.2.1, c.2.2.2.2.2.2.2.2.2.2.1, (), (), c.2.2.2.2.2.2.2.2.2.2.2.1, ()), c.2.2.2.2.2.2.2.2.2.2.2.2.1, c.2.2.2.2.2.2.2.2.2.2.2.2.2.1, c.2.2.2.2.2.2.2.2.2.2.2.2.2.2, ()))
def impl_Catch_9_prj (y : EVs T impl_Catch_9_sv × EOs T impl_Catch_9_so) : (List SUpdate × Bool × List SUpdate × Int × Int × Int × Int × List Int × List SFeature × Int × Int × Int × List Int × List SFeature × List Bool) × Int := ((y.1.1, y.1.2.2.2.2.1, y.1.2.2.2.2.2.1, y.1.2.2.2.2.2.2.1, y.2.1.1, y.2.1.2.1, y.2.1.2.2.2.2.1, y.2.2.1, y.2.2.2.1, y.2.2.2.2.1.1, y.2.2.2.2.1.2.1, y.2.2.2.2.1.2.2.2.2.1, y.2.2.2.2.2.1, y.2.2.2.2.2.2.1, y.2.2.2.2.2.2.2.1), (y.1.2.2.2.2.2.2.2.1))
def impl_Catch_9_b (n : Nat) {R : Type} (K : Ex → Sm.St T → Option R) (c : List SUpdate × Bool × List SUpdate × Int × Int × Int × Int × List Int × List SFeature × Int × Int × Int × List Int × List SFeature × List Bool) (x : Int) (J : Int → Option R) : Option R :=
  impl_Catch_L9 n (fun (y1 : Bool) (y2 : Int) (y3 : Int) (y4 : Int) (y5 : List Int) (y6 : List SFeature) (y12 : List Bool) => K (.exit 2) (stOf (T := T) [1, 2, 4, 6, 7] [16, 3000001, 3000002, 32, 3000003, 3000004, 3000000] [.one (.arr 85), .one (.ptr 16 0 0), .one (.ptr 32 0 0), .one (.own 3000000 4 false), .one (.bool)] [.var [.int .i64, .int .i64, .own 3000001 3 false, .own 3000002 181 false, .int .i64], .arr 3 false, .arr 181 false, .var [.int .i64, .int .i64, .own 3000003 3 false, .own 3000004 181 false, .int .i64], .arr 3 false, .arr 181 false, .arr 4 false] (c.1, (), (), (), y1, ()) ((y2, y3, (), (), y4, ()), y5, y6, (c.2.2.2.2.2.2.2.2.2.1, c.2.2.2.2.2.2.2.2.2.2.1, (), (), c.2.2.2.2.2.2.2.2.2.2.2.1, ()), c.2.2.2.2.2.2.2.2.2.2.2.2.1, c.2.2.2.2.2.2.2.2.2.2.2.2.2.1, y12, ()))) J c.1 c.2.1 c.2.2.1 c.2.2.2.1 x c.2.2.2.2.1 c.2.2.2.2.2.1 c.2.2.2.2.2.2.1 c.2.2.2.2.2.2.2.1 c.2.2.2.2.2.2.2.2.1 c.2.2.2.2.2.2.2.2.2.1 c.2.2.2.2.2.2.2.2.2.2.1 c.2.2.2.2.2.2.2.2.2.2.2.1 c.2.2.2.2.2.2.2.2.2.2.2.2.1 c.2.2.2.2.2.2.2.2.2.2.2.2.2.1 c.2.2.2.2.2.2.2.2.2.2.2.2.2.2
def impl_Catch_9_sp (n : Nat) : LSpec T := mkSpec T ⟨[((.reg 6), 3000000, 4), ((.cell 16 2), 3000001, 3), ((.cell 16 3), 3000002, 181), ((.cell 32 2), 3000003, 3), ((.cell 32 3), 3000004, 181)], [1, 2, 4, 6, 7, 25, 26, 27], [16, 3000001, 3000002, 32, 3000003, 3000004, 3000000]⟩ impl_Catch_9_sv impl_Catch_9_so (List SUpdate × Bool × List SUpdate × Int × Int × Int × Int × List Int × List SFeature × Int × Int × Int × List Int × List SFeature × List Bool) (Int) impl_Catch_9_emb impl_Catch_9_prj (impl_Catch_9_b n)
noncomputable def impl_Catch_9_c : Code := ((loopCodes impl_Catch_code)[1]?).getD .skip
def impl_Catch_18_sv : List Sv := [.one (.ptr 16 0 0), .one (.ptr 32 0 0), .one (.own 3000005 3 false), .one (.own 3000006 4 false), .one (.int .i64), .one (.int .i64)]
def impl_Catch_18_so : List So := [.var [.int .i64, .int .i64, .own 3000001 3 false, .own 3000002 181 false, .int .i64], .arr 3 false, .arr 181 false, .var [.int .i64, .int .i64, .own 3000003 3 false, .own 3000004 181 false, .int .i64], .arr 3 false, .arr 181 false, .arr 3 false, .arr 4 false]
def impl_Catch_18_emb (c : Int × Int × Int × Int × List Int × List SFeature × Int × Int × Int × List Int × List SFeature × List Bool) (x : Int × List Int) : EVs T impl_Catch_18_sv × EOs T impl_Catch_18_so := (((), (), (), (), c.1, x.1, ()), ((c.2.1, c.2.2.1, (), (), c.2.2.2.1, ()), c.2.2.2.2.1, c.2.2.2.2.2.1, (c.2.2.2.2.2.2.1, c.2.2.2.2.2.2.2.1, (), (), c.2.2.2.2.2.2.2.2.1, ()), c.2.2.2.2.2.2.2.2.2.1, c.2.2.2.2.2.2.2.2.2.2.1, x.2, c.2.2.2.2.2.2.2.2.2.2.2, ()))
def impl_Catch_18_prj (y : EVs T impl_Catch_18_sv × EOs T impl_Catch_18_so) : (Int × Int × Int × Int × List Int × List SFeature × Int × Int × Int × List Int × List SFeature × List Bool) × (Int × List Int) := ((y.1.2.2.2.2.1, y.2.1.1, y.2.1.2.1, y.2.1.2.2.2.2.1, y.2.2.1, y.2.2.2.1, y.2.2.2.2.1.1, y.2.2.2.2.1.2.1, y.2.2.2.2.1.2.2.2.2.1, y.2.2.2.2.2.1, y.2.2.2.2.2.2.1, y.2.2.2.2.2.2.2.2.1), (y.1.2.2.2.2.2.1, y.2.2.2.2.2.2.2.1))
def impl_Catch_18_b (n : Nat) {R : Type} (K : Ex → Sm.St T → Option R) (c : Int × Int × Int × Int × List Int × List SFeature × Int × Int × Int × List Int × List SFeature × List Bool) (x : Int × List Int) (J : (Int × List Int) → Option R) : Option R :=
  impl_Catch_L18 n (fun (y10 : List Int) => K (.exit 4) (stOf (T := T) [2, 4, 12] [16, 3000001, 3000002, 32, 3000003, 3000004, 3000005] [.one (.ptr 16 0 0), .one (.ptr 32 0 0), .one (.own 3000005 3 false)] [.var [.int .i64, .int .i64, .own 3000001 3 false, .own 3000002 181 false, .int .i64], .arr 3 false, .arr 181 false, .var [.int .i64, .int .i64, .own 3000003 3 false, .own 3000004 181 false, .int .i64], .arr 3 false, .arr 181 false, .arr 3 false] ((), (), (), ()) ((c.2.1, c.2.2.1, (), (), c.2.2.2.1, ()), c.2.2.2.2.1, c.2.2.2.2.2.1, (c.2.2.2.2.2.2.1, c.2.2.2.2.2.2.2.1, (), (), c.2.2.2.2.2.2.2.2.1, ()), c.2.2.2.2.2.2.2.2.2.1, c.2.2.2.2.2.2.2.2.2.2.1, y10, ()))) (fun z0 z1 => J (z0, z1)) c.1 x.1 c.2.1 c.2.2.1 c.2.2.2.1 c.2.2.2.2.1 c.2.2.2.2.2.1 c.2.2.2.2.2.2.1 c.2.2.2.2.2.2.2.1 c.2.2.2.2.2.2.2.2.1 c.2.2.2.2.2.2.2.2.2.1 c.2.2.2.2.2.2.2.2.2.2.1 x.2 c.2.2.2.2.2.2.2.2.2.2.2
def impl_Catch_18_sp (n : Nat) : LSpec T := mkSpec T ⟨[((.reg 12), 3000005, 3), ((.reg 49), 3000006, 4), ((.cell 16 2), 3000001, 3), ((.cell 16 3), 3000002, 181), ((.cell 32 2), 3000003, 3), ((.cell 32 3), 3000004, 181)], [2, 4, 12, 49, 50, 51], [16, 3000001, 3000002, 32, 3000003, 3000004, 3000005, 3000006]⟩ impl_Catch_18_sv impl_Catch_18_so (Int × Int × Int × Int × List Int × List SFeature × Int × Int × Int × List Int × List SFeature × List Bool) (Int × List Int) impl_Catch_18_emb impl_Catch_18_prj (impl_Catch_18_b n)
noncomputable def impl_Catch_18_c : Code := ((loopCodes impl_Catch_code)[2]?).getD .skip
def impl_Catch_ann : Ann := fun id => bif Nat.beq id 3000006 then some ⟨[((.reg 6), 3000000, 4), ((.cell 16 2), 3000001, 3), ((.cell 16 3), 3000002, 181), ((.cell 32 2), 3000003, 3), ((.cell 32 3), 3000004, 181)], [2, 4, 6], [16, 3000001, 3000002, 32, 3000003, 3000004, 3000000]⟩ else bif Nat.beq id 5000009 then some ⟨[((.reg 6), 3000000, 4), ((.cell 16 2), 3000001, 3), ((.cell 16 3), 3000002, 181), ((.cell 32 2), 3000003, 3), ((.cell 32 3), 3000004, 181)], [1, 2, 4, 6, 7], [16, 3000001, 3000002, 32, 3000003, 3000004, 3000000]⟩ else bif Nat.beq id 7000018 then some ⟨[((.reg 12), 3000005, 3), ((.cell 16 2), 3000001, 3), ((.cell 16 3), 3000002, 181), ((.cell 32 2), 3000003, 3), ((.cell 32 3), 3000004, 181)], [2, 4, 12], [16, 3000001, 3000002, 32, 3000003, 3000004, 3000005]⟩ else none
def impl_Catch_Ls (n : Nat) : Nat → Option (LSpec T) := fun id => bif Nat.beq id 6 then some (impl_Catch_6_sp n) else bif Nat.beq id 9 then some (impl_Catch_9_sp n) else bif Nat.beq id 18 then some (impl_Catch_18_sp n) else none
theorem impl_Catch_6_le (n : Nat) : LoopEq (T := T) (Phi n 45) (impl_Catch_Ls n) impl_Catch_ann n impl_Catch_6_c (impl_Catch_6_sp n) := ⟨mkSpec_dec (fun y => rfl), fun c x => by kernel_rfl, fun K J c x => by kernel_rfl⟩
theorem impl_Catch_9_le (n : Nat) : LoopEq (T := T) (Phi n 45) (impl_Catch_Ls n) impl_Catch_ann n impl_Catch_9_c (impl_Catch_9_sp n) := ⟨mkSpec_dec (fun y => rfl), fun c x => by kernel_rfl, fun K J c x => by kernel_rfl⟩
theorem impl_Catch_18_le (n : Nat) : LoopEq (T := T) (Phi n 45) (impl_Catch_Ls n) impl_Catch_ann n impl_Catch_18_c (impl_Catch_18_sp n) := ⟨mkSpec_dec (fun y => rfl), fun c x => by kernel_rfl, fun K J c x => by kernel_rfl⟩
theorem impl_Catch_tie (n : Nat) (c0 : SChart) (list1 : List SUpdate) : evF (T := T) (Phi n 45) (impl_Catch_Ls n) impl_Catch_ann n Try.f59 (sg 59) [vA T 63 c0, vA T 94 list1] impl_Catch_dec = impl_Catch n c0 list1 := by kernel_rfl
theorem impl_Catch_lo (n : Nat) : LoopsOk (T := T) (Phi n 45) (impl_Catch_Ls n) impl_Catch_ann n impl_Catch_code := loopsOk_all (cs := [impl_Catch_6_c, impl_Catch_9_c, impl_Catch_18_c]) (by kernel_rfl) ⟨⟨_, by kernel_rfl, impl_Catch_6_le n⟩, ⟨_, by kernel_rfl, impl_Catch_9_le n⟩, ⟨_, by kernel_rfl, impl_Catch_18_le n⟩, trivial⟩
theorem impl_Catch_ok (n : Nat) : EntOk Try.prog (ents n) (impl_Catch_ent n) := by
  intro hs ar y hg h
  replace h : impl_Catch_D n ar = some y := h
  unfold impl_Catch_D at h
  replace h := ocons_some h
  obtain ⟨a0, r0, rfl, h⟩ := h
  replace h := ocons_some h
  obtain ⟨a1, r1, rfl, h⟩ := h
  replace h := onil_some h
  obtain ⟨rfl, h⟩ := h
  obtain ⟨c0, qh0, h⟩ := obind_some h
  obtain ⟨list1, qh1, h⟩ := obind_some h
  rw [argV_eq ok qh0, argV_eq ok qh1]
  exact call_of (phiE_nat _ _) hs ok mixed Try.func59 (c := impl_Catch_code) (by kernel_rfl) (impl_Catch_lo n) (by kernel_rfl) (by kernel_rfl) (by kernel_rfl) impl_Catch_de ((impl_Catch_tie n c0 list1).trans h)
noncomputable def laws_eqIntS_code : Code := match Try.f37.body with | some c => c | none => .skip
def laws_eqIntS_4_sv : List Sv := [.one (.arr 3), .one (.arr 3), .one (.int .i64)]
def laws_eqIntS_4_so : List So := []
def laws_eqIntS_4_emb (c : List Int × List Int) (x : Int) : EVs T laws_eqIntS_4_sv × EOs T laws_eqIntS_4_so := ((c.1, c.2, x, ()), ())
def laws_eqIntS_4_prj (y : EVs T laws_eqIntS_4_sv × EOs T laws_eqIntS_4_so) : (List Int × List Int) × Int := ((y.1.1, y.1.2.1), (y.1.2.2.1))
def laws_eqIntS_4_b (n : Nat) {R : Type} (K : Ex → Sm.St T → Option R) (c : List Int × List Int) (x : Int) (J : Int → Option R) : Option R :=
  laws_eqIntS_L4 n (K (.exit 0) (stOf (T := T) [] [] [] [] () ())) (fun (y0 : Bool) => K .ret (stOf (T := T) [4] [] [.one (.bool)] [] (y0, ()) ())) J c.1 c.2 x
def laws_eqIntS_4_sp (n : Nat) : LSpec T := mkSpec T ⟨[], [0, 1, 5], []⟩ laws_eqIntS_4_sv laws_eqIntS_4_so (List Int × List Int) (Int) laws_eqIntS_4_emb laws_eqIntS_4_prj (laws_eqIntS_4_b n)
noncomputable def laws_eqIntS_4_c : Code := ((loopCodes laws_eqIntS_code)[0]?).getD .skip
def laws_eqIntS_ann : Ann := fun id => bif Nat.beq id 3000004 then some ⟨[], [], []⟩ else bif Nat.beq id 2000004 then some ⟨[], [4], []⟩ else none
def laws_eqIntS_Ls (n : Nat) : Nat → Option (LSpec T) := fun id => bif Nat.beq id 4 then some (laws_eqIntS_4_sp n) else none
theorem laws_eqIntS_4_le (n : Nat) : LoopEq (T := T) (Phi n 46) (laws_eqIntS_Ls n) laws_eqIntS_ann n laws_eqIntS_4_c (laws_eqIntS_4_sp n) := ⟨mkSpec_dec (fun y => rfl), fun c x => by kernel_rfl, fun K J c x => by kernel_rfl⟩
theorem laws_eqIntS_tie (n : Nat) (a0 : List Int) (b1 : List Int) : evF (T := T) (Phi n 46) (laws_eqIntS_Ls n) laws_eqIntS_ann n Try.f37 (sg 37) [vA T 55 a0, vA T 55 b1] laws_eqIntS_dec = laws_eqIntS n a0 b1 := by kernel_rfl
theorem laws_eqIntS_lo (n : Nat) : LoopsOk (T := T) (Phi n 46) (laws_eqIntS_Ls n) laws_eqIntS_ann n laws_eqIntS_code := loopsOk_all (cs := [laws_eqIntS_4_c]) (by kernel_rfl) ⟨⟨_, by kernel_rfl, laws_eqIntS_4_le n⟩, trivial⟩
theorem laws_eqIntS_ok (n : Nat) : EntOk Try.prog (ents n) (laws_eqIntS_ent n) := by
  intro hs ar y hg h
  replace h : laws_eqIntS_D n ar = some y := h
  unfold laws_eqIntS_D at h
  replace h := ocons_some h
  obtain ⟨a0, r0, rfl, h⟩ := h
  replace h := ocons_some h
  obtain ⟨a1, r1, rfl, h⟩ := h
  replace h := onil_some h
  obtain ⟨rfl, h⟩ := h
  obtain ⟨a0, qh0, h⟩ := obind_some h
  obtain ⟨b1, qh1, h⟩ := obind_some h
  rw [argV_eq ok qh0, argV_eq ok qh1]
  exact call_of (phiE_nat _ _) hs ok mixed Try.func37 (c := laws_eqIntS_code) (by kernel_rfl) (laws_eqIntS_lo n) (by kernel_rfl) (by kernel_rfl) (by kernel_rfl) laws_eqIntS_de ((laws_eqIntS_tie n a0 b1).trans h)
noncomputable def laws_eqFeature_code : Code := match Try.f193.body with | some c => c | none => .skip
def laws_eqFeature_ann : Ann := fun id => none
def laws_eqFeature_Ls (n : Nat) : Nat → Option (LSpec T) := fun id => none
theorem laws_eqFeature_tie (n : Nat) (a0 : SFeature) (b1 : SFeature) : evF (T := T) (Phi n 47) (laws_eqFeature_Ls n) laws_eqFeature_ann n Try.f193 (sg 193) [vA T 181 a0, vA T 181 b1] laws_eqFeature_dec = laws_eqFeature n a0 b1 := by kernel_rfl
theorem laws_eqFeature_lo (n : Nat) : LoopsOk (T := T) (Phi n 47) (laws_eqFeature_Ls n) laws_eqFeature_ann n laws_eqFeature_code := loopsOk_all (cs := []) (by kernel_rfl) trivial
theorem laws_eqFeature_ok (n : Nat) : EntOk Try.prog (ents n) (laws_eqFeature_ent n) := by
  intro hs ar y hg h
  replace h : laws_eqFeature_D n ar = some y := h
  unfold laws_eqFeature_D at h
  replace h := ocons_some h
  obtain ⟨a0, r0, rfl, h⟩ := h
  replace h := ocons_some h
  obtain ⟨a1, r1, rfl, h⟩ := h
  replace h := onil_some h
  obtain ⟨rfl, h⟩ := h
  obtain ⟨a0, qh0, h⟩ := obind_some h
  obtain ⟨b1, qh1, h⟩ := obind_some h
  rw [argV_eq ok qh0, argV_eq ok qh1]
  exact call_of (phiE_nat _ _) hs ok mixed Try.func193 (c := laws_eqFeature_code) (by kernel_rfl) (laws_eqFeature_lo n) (by kernel_rfl) (by kernel_rfl) (by kernel_rfl) laws_eqFeature_de ((laws_eqFeature_tie n a0 b1).trans h)
noncomputable def laws_eqFeatureS_code : Code := match Try.f114.body with | some c => c | none => .skip
def laws_eqFeatureS_4_sv : List Sv := [.one (.arr 181), .one (.arr 181), .one (.int .i64)]
def laws_eqFeatureS_4_so : List So := []
def laws_eqFeatureS_4_emb (c : List SFeature × List SFeature) (x : Int) : EVs T laws_eqFeatureS_4_sv × EOs T laws_eqFeatureS_4_so := ((c.1, c.2, x, ()), ())
def laws_eqFeatureS_4_prj (y : EVs T laws_eqFeatureS_4_sv × EOs T laws_eqFeatureS_4_so) : (List SFeature × List SFeature) × Int := ((y.1.1, y.1.2.1), (y.1.2.2.1))
def laws_eqFeatureS_4_b (n : Nat) {R : Type} (K : Ex → Sm.St T → Option R) (c : List SFeature × List SFeature) (x : Int) (J : Int → Option R) : Option R :=
  laws_eqFeatureS_L4 n (K (.exit 0) (stOf (T := T) [] [] [] [] () ())) (fun (y0 : Bool) => K .ret (stOf (T := T) [4] [] [.one (.bool)] [] (y0, ()) ())) J c.1 c.2 x
def laws_eqFeatureS_4_sp (n : Nat) : LSpec T := mkSpec T ⟨[], [0, 1, 5], []⟩ laws_eqFeatureS_4_sv laws_eqFeatureS_4_so (List SFeature × List SFeature) (Int) laws_eqFeatureS_4_emb laws_eqFeatureS_4_prj (laws_eqFeatureS_4_b n)
noncomputable def laws_eqFeatureS_4_c : Code := ((loopCodes laws_eqFeatureS_code)[0]?).getD .skip
def laws_eqFeatureS_ann : Ann := fun id => bif Nat.beq id 3000004 then some ⟨[], [], []⟩ else bif Nat.beq id 2000004 then some ⟨[], [4], []⟩ else none
def laws_eqFeatureS_Ls (n : Nat) : Nat → Option (LSpec T) := fun id => bif Nat.beq id 4 then some (laws_eqFeatureS_4_sp n) else none
theorem laws_eqFeatureS_4_le (n : Nat) : LoopEq (T := T) (Phi n 48) (laws_eqFeatureS_Ls n) laws_eqFeatureS_ann n laws_eqFeatureS_4_c (laws_eqFeatureS_4_sp n) := ⟨mkSpec_dec (fun y => rfl), fun c x => by kernel_rfl, fun K J c x => by kernel_rfl⟩
theorem laws_eqFeatureS_tie (n : Nat) (a0 : List SFeature) (b1 : List SFeature) : evF (T := T) (Phi n 48) (laws_eqFeatureS_Ls n) laws_eqFeatureS_ann n Try.f114 (sg 114) [vA T 61 a0, vA T 61 b1] laws_eqFeatureS_dec = laws_eqFeatureS n a0 b1 := by kernel_rfl
theorem laws_eqFeatureS_lo (n : Nat) : LoopsOk (T := T) (Phi n 48) (laws_eqFeatureS_Ls n) laws_eqFeatureS_ann n laws_eqFeatureS_code := loopsOk_all (cs := [laws_eqFeatureS_4_c]) (by kernel_rfl) ⟨⟨_, by kernel_rfl, laws_eqFeatureS_4_le n⟩, trivial⟩
theorem laws_eqFeatureS_ok (n : Nat) : EntOk Try.prog (ents n) (laws_eqFeatureS_ent n) := by
  intro hs ar y hg h
  replace h : laws_eqFeatureS_D n ar = some y := h
  unfold laws_eqFeatureS_D at h
  replace h := ocons_some h
  obtain ⟨a0, r0, rfl, h⟩ := h
  replace h := ocons_some h
  obtain ⟨a1, r1, rfl, h⟩ := h
  replace h := onil_some h
  obtain ⟨rfl, h⟩ := h
  obtain ⟨a0, qh0, h⟩ := obind_some h
  obtain ⟨b1, qh1, h⟩ := obind_some h
  rw [argV_eq ok qh0, argV_eq ok qh1]
  exact call_of (phiE_nat _ _) hs ok mixed Try.func114 (c := laws_eqFeatureS_code) (by kernel_rfl) (laws_eqFeatureS_lo n) (by kernel_rfl) (by kernel_rfl) (by kernel_rfl) laws_eqFeatureS_de ((laws_eqFeatureS_tie n a0 b1).trans h)
noncomputable def laws_eqChart_code : Code := match Try.f38.body with | some c => c | none => .skip
def laws_eqChart_ann : Ann := fun id => none
def laws_eqChart_Ls (n : Nat) : Nat → Option (LSpec T) := fun id => none
theorem laws_eqChart_tie (n : Nat) (a0 : SChart) (b1 : SChart) : evF (T := T) (Phi n 49) (laws_eqChart_Ls n) laws_eqChart_ann n Try.f38 (sg 38) [vA T 63 a0, vA T 63 b1] laws_eqChart_dec = laws_eqChart n a0 b1 := by kernel_rfl
theorem laws_eqChart_lo (n : Nat) : LoopsOk (T := T) (Phi n 49) (laws_eqChart_Ls n) laws_eqChart_ann n laws_eqChart_code := loopsOk_all (cs := []) (by kernel_rfl) trivial
theorem laws_eqChart_ok (n : Nat) : EntOk Try.prog (ents n) (laws_eqChart_ent n) := by
  intro hs ar y hg h
  replace h : laws_eqChart_D n ar = some y := h
  unfold laws_eqChart_D at h
  replace h := ocons_some h
  obtain ⟨a0, r0, rfl, h⟩ := h
  replace h := ocons_some h
  obtain ⟨a1, r1, rfl, h⟩ := h
  replace h := onil_some h
  obtain ⟨rfl, h⟩ := h
  obtain ⟨a0, qh0, h⟩ := obind_some h
  obtain ⟨b1, qh1, h⟩ := obind_some h
  rw [argV_eq ok qh0, argV_eq ok qh1]
  exact call_of (phiE_nat _ _) hs ok mixed Try.func38 (c := laws_eqChart_code) (by kernel_rfl) (laws_eqChart_lo n) (by kernel_rfl) (by kernel_rfl) (by kernel_rfl) laws_eqChart_de ((laws_eqChart_tie n a0 b1).trans h)
noncomputable def laws_eqNote_code : Code := match Try.f210.body with | some c => c | none => .skip
def laws_eqNote_ann : Ann := fun id => none
def laws_eqNote_Ls (n : Nat) : Nat → Option (LSpec T) := fun id => none
theorem laws_eqNote_tie (n : Nat) (a0 : SNote) (b1 : SNote) : evF (T := T) (Phi n 50) (laws_eqNote_Ls n) laws_eqNote_ann n Try.f210 (sg 210) [vA T 196 a0, vA T 196 b1] laws_eqNote_dec = laws_eqNote n a0 b1 := by kernel_rfl
theorem laws_eqNote_lo (n : Nat) : LoopsOk (T := T) (Phi n 50) (laws_eqNote_Ls n) laws_eqNote_ann n laws_eqNote_code := loopsOk_all (cs := []) (by kernel_rfl) trivial
theorem laws_eqNote_ok (n : Nat) : EntOk Try.prog (ents n) (laws_eqNote_ent n) := by
  intro hs ar y hg h
  replace h : laws_eqNote_D n ar = some y := h
  unfold laws_eqNote_D at h
  replace h := ocons_some h
  obtain ⟨a0, r0, rfl, h⟩ := h
  replace h := ocons_some h
  obtain ⟨a1, r1, rfl, h⟩ := h
  replace h := onil_some h
  obtain ⟨rfl, h⟩ := h
  obtain ⟨a0, qh0, h⟩ := obind_some h
  obtain ⟨b1, qh1, h⟩ := obind_some h
  rw [argV_eq ok qh0, argV_eq ok qh1]
  exact call_of (phiE_nat _ _) hs ok mixed Try.func210 (c := laws_eqNote_code) (by kernel_rfl) (laws_eqNote_lo n) (by kernel_rfl) (by kernel_rfl) (by kernel_rfl) laws_eqNote_de ((laws_eqNote_tie n a0 b1).trans h)
noncomputable def laws_eqNoteS_code : Code := match Try.f135.body with | some c => c | none => .skip
def laws_eqNoteS_4_sv : List Sv := [.one (.arr 196), .one (.arr 196), .one (.int .i64)]
def laws_eqNoteS_4_so : List So := []
def laws_eqNoteS_4_emb (c : List SNote × List SNote) (x : Int) : EVs T laws_eqNoteS_4_sv × EOs T laws_eqNoteS_4_so := ((c.1, c.2, x, ()), ())
def laws_eqNoteS_4_prj (y : EVs T laws_eqNoteS_4_sv × EOs T laws_eqNoteS_4_so) : (List SNote × List SNote) × Int := ((y.1.1, y.1.2.1), (y.1.2.2.1))
def laws_eqNoteS_4_b (n : Nat) {R : Type} (K : Ex → Sm.St T → Option R) (c : List SNote × List SNote) (x : Int) (J : Int → Option R) : Option R :=
  laws_eqNoteS_L4 n (K (.exit 0) (stOf (T := T) [] [] [] [] () ())) (fun (y0 : Bool) => K .ret (stOf (T := T) [4] [] [.one (.bool)] [] (y0, ()) ())) J c.1 c.2 x
def laws_eqNoteS_4_sp (n : Nat) : LSpec T := mkSpec T ⟨[], [0, 1, 5], []⟩ laws_eqNoteS_4_sv laws_eqNoteS_4_so (List SNote × List SNote) (Int) laws_eqNoteS_4_emb laws_eqNoteS_4_prj (laws_eqNoteS_4_b n)
noncomputable def laws_eqNoteS_4_c : Code := ((loopCodes laws_eqNoteS_code)[0]?).getD .skip
def laws_eqNoteS_ann : Ann := fun id => bif Nat.beq id 3000004 then some ⟨[], [], []⟩ else bif Nat.beq id 2000004 then some ⟨[], [4], []⟩ else none
def laws_eqNoteS_Ls (n : Nat) : Nat → Option (LSpec T) := fun id => bif Nat.beq id 4 then some (laws_eqNoteS_4_sp n) else none
theorem laws_eqNoteS_4_le (n : Nat) : LoopEq (T := T) (Phi n 51) (laws_eqNoteS_Ls n) laws_eqNoteS_ann n laws_eqNoteS_4_c (laws_eqNoteS_4_sp n) := ⟨mkSpec_dec (fun y => rfl), fun c x => by kernel_rfl, fun K J c x => by kernel_rfl⟩
theorem laws_eqNoteS_tie (n : Nat) (a0 : List SNote) (b1 : List SNote) : evF (T := T) (Phi n 51) (laws_eqNoteS_Ls n) laws_eqNoteS_ann n Try.f135 (sg 135) [vA T 83 a0, vA T 83 b1] laws_eqNoteS_dec = laws_eqNoteS n a0 b1 := by kernel_rfl
theorem laws_eqNoteS_lo (n : Nat) : LoopsOk (T := T) (Phi n 51) (laws_eqNoteS_Ls n) laws_eqNoteS_ann n laws_eqNoteS_code := loopsOk_all (cs := [laws_eqNoteS_4_c]) (by kernel_rfl) ⟨⟨_, by kernel_rfl, laws_eqNoteS_4_le n⟩, trivial⟩
theorem laws_eqNoteS_ok (n : Nat) : EntOk Try.prog (ents n) (laws_eqNoteS_ent n) := by
  intro hs ar y hg h
  replace h : laws_eqNoteS_D n ar = some y := h
  unfold laws_eqNoteS_D at h
  replace h := ocons_some h
  obtain ⟨a0, r0, rfl, h⟩ := h
  replace h := ocons_some h
  obtain ⟨a1, r1, rfl, h⟩ := h
  replace h := onil_some h
  obtain ⟨rfl, h⟩ := h
  obtain ⟨a0, qh0, h⟩ := obind_some h
  obtain ⟨b1, qh1, h⟩ := obind_some h
  rw [argV_eq ok qh0, argV_eq ok qh1]
  exact call_of (phiE_nat _ _) hs ok mixed Try.func135 (c := laws_eqNoteS_code) (by kernel_rfl) (laws_eqNoteS_lo n) (by kernel_rfl) (by kernel_rfl) (by kernel_rfl) laws_eqNoteS_de ((laws_eqNoteS_tie n a0 b1).trans h)
noncomputable def laws_eqUpdate_code : Code := match Try.f53.body with | some c => c | none => .skip
def laws_eqUpdate_ann : Ann := fun id => none
def laws_eqUpdate_Ls (n : Nat) : Nat → Option (LSpec T) := fun id => none
theorem laws_eqUpdate_tie (n : Nat) (a0 : SUpdate) (b1 : SUpdate) : evF (T := T) (Phi n 52) (laws_eqUpdate_Ls n) laws_eqUpdate_ann n Try.f53 (sg 53) [vA T 85 a0, vA T 85 b1] laws_eqUpdate_dec = laws_eqUpdate n a0 b1 := by kernel_rfl
theorem laws_eqUpdate_lo (n : Nat) : LoopsOk (T := T) (Phi n 52) (laws_eqUpdate_Ls n) laws_eqUpdate_ann n laws_eqUpdate_code := loopsOk_all (cs := []) (by kernel_rfl) trivial
theorem laws_eqUpdate_ok (n : Nat) : EntOk Try.prog (ents n) (laws_eqUpdate_ent n) := by
  intro hs ar y hg h
  replace h : laws_eqUpdate_D n ar = some y := h
  unfold laws_eqUpdate_D at h
  replace h := ocons_some h
  obtain ⟨a0, r0, rfl, h⟩ := h
  replace h := ocons_some h
  obtain ⟨a1, r1, rfl, h⟩ := h
  replace h := onil_some h
  obtain ⟨rfl, h⟩ := h
  obtain ⟨a0, qh0, h⟩ := obind_some h
  obtain ⟨b1, qh1, h⟩ := obind_some h
  rw [argV_eq ok qh0, argV_eq ok qh1]
  exact call_of (phiE_nat _ _) hs ok mixed Try.func53 (c := laws_eqUpdate_code) (by kernel_rfl) (laws_eqUpdate_lo n) (by kernel_rfl) (by kernel_rfl) (by kernel_rfl) laws_eqUpdate_de ((laws_eqUpdate_tie n a0 b1).trans h)
noncomputable def laws_eqUpdateS_code : Code := match Try.f60.body with | some c => c | none => .skip
def laws_eqUpdateS_4_sv : List Sv := [.one (.arr 85), .one (.arr 85), .one (.int .i64)]
def laws_eqUpdateS_4_so : List So := []
def laws_eqUpdateS_4_emb (c : List SUpdate × List SUpdate) (x : Int) : EVs T laws_eqUpdateS_4_sv × EOs T laws_eqUpdateS_4_so := ((c.1, c.2, x, ()), ())
def laws_eqUpdateS_4_prj (y : EVs T laws_eqUpdateS_4_sv × EOs T laws_eqUpdateS_4_so) : (List SUpdate × List SUpdate) × Int := ((y.1.1, y.1.2.1), (y.1.2.2.1))
def laws_eqUpdateS_4_b (n : Nat) {R : Type} (K : Ex → Sm.St T → Option R) (c : List SUpdate × List SUpdate) (x : Int) (J : Int → Option R) : Option R :=
  laws_eqUpdateS_L4 n (K (.exit 0) (stOf (T := T) [] [] [] [] () ())) (fun (y0 : Bool) => K .ret (stOf (T := T) [4] [] [.one (.bool)] [] (y0, ()) ())) J c.1 c.2 x
def laws_eqUpdateS_4_sp (n : Nat) : LSpec T := mkSpec T ⟨[], [0, 1, 5], []⟩ laws_eqUpdateS_4_sv laws_eqUpdateS_4_so (List SUpdate × List SUpdate) (Int) laws_eqUpdateS_4_emb laws_eqUpdateS_4_prj (laws_eqUpdateS_4_b n)
noncomputable def laws_eqUpdateS_4_c : Code := ((loopCodes laws_eqUpdateS_code)[0]?).getD .skip
def laws_eqUpdateS_ann : Ann := fun id => bif Nat.beq id 3000004 then some ⟨[], [], []⟩ else bif Nat.beq id 2000004 then some ⟨[], [4], []⟩ else none
def laws_eqUpdateS_Ls (n : Nat) : Nat → Option (LSpec T) := fun id => bif Nat.beq id 4 then some (laws_eqUpdateS_4_sp n) else none
theorem laws_eqUpdateS_4_le (n : Nat) : LoopEq (T := T) (Phi n 53) (laws_eqUpdateS_Ls n) laws_eqUpdateS_ann n laws_eqUpdateS_4_c (laws_eqUpdateS_4_sp n) := ⟨mkSpec_dec (fun y => rfl), fun c x => by kernel_rfl, fun K J c x => by kernel_rfl⟩
theorem laws_eqUpdateS_tie (n : Nat) (a0 : List SUpdate) (b1 : List SUpdate) : evF (T := T) (Phi n 53) (laws_eqUpdateS_Ls n) laws_eqUpdateS_ann n Try.f60 (sg 60) [vA T 94 a0, vA T 94 b1] laws_eqUpdateS_dec = laws_eqUpdateS n a0 b1 := by kernel_rfl
theorem laws_eqUpdateS_lo (n : Nat) : LoopsOk (T := T) (Phi n 53) (laws_eqUpdateS_Ls n) laws_eqUpdateS_ann n laws_eqUpdateS_code := loopsOk_all (cs := [laws_eqUpdateS_4_c]) (by kernel_rfl) ⟨⟨_, by kernel_rfl, laws_eqUpdateS_4_le n⟩, trivial⟩
theorem laws_eqUpdateS_ok (n : Nat) : EntOk Try.prog (ents n) (laws_eqUpdateS_ent n) := by
  intro hs ar y hg h
  replace h : laws_eqUpdateS_D n ar = some y := h
  unfold laws_eqUpdateS_D at h
  replace h := ocons_some h
  obtain ⟨a0, r0, rfl, h⟩ := h
  replace h := ocons_some h
  obtain ⟨a1, r1, rfl, h⟩ := h
  replace h := onil_some h
  obtain ⟨rfl, h⟩ := h
  obtain ⟨a0, qh0, h⟩ := obind_some h
  obtain ⟨b1, qh1, h⟩ := obind_some h
  rw [argV_eq ok qh0, argV_eq ok qh1]
  exact call_of (phiE_nat _ _) hs ok mixed Try.func60 (c := laws_eqUpdateS_code) (by kernel_rfl) (laws_eqUpdateS_lo n) (by kernel_rfl) (by kernel_rfl) (by kernel_rfl) laws_eqUpdateS_de ((laws_eqUpdateS_tie n a0 b1).trans h)
noncomputable def laws_markIntS_code : Code := match Try.f40.body with | some c => c | none => .skip
def laws_markIntS_2_sv : List Sv := [.one (.own 4503599627370496 3 false), .one (.int .i64), .one (.int .i64)]
def laws_markIntS_2_so : List So := [.arr 3 true]
def laws_markIntS_2_emb (c : Unit) (x : Int × Int × List Int) : EVs T laws_markIntS_2_sv × EOs T laws_markIntS_2_so := (((), x.1, x.2.1, ()), (x.2.2, ()))
def laws_markIntS_2_prj (y : EVs T laws_markIntS_2_sv × EOs T laws_markIntS_2_so) : Unit × (Int × Int × List Int) := ((), (y.1.2.1, y.1.2.2.1, y.2.1))
def laws_markIntS_2_b (n : Nat) {R : Type} (K : Ex → Sm.St T → Option R) (c : Unit) (x : Int × Int × List Int) (J : (Int × Int × List Int) → Option R) : Option R :=
  laws_markIntS_L2 n (fun (y0 : Int) (y1 : List Int) => K (.exit 0) (stOf (T := T) [1] [4503599627370496] [.one (.int .i64)] [.arr 3 true] (y0, ()) (y1, ()))) (fun z0 z1 z2 => J (z0, z1, z2)) x.1 x.2.1 x.2.2
def laws_markIntS_2_sp (n : Nat) : LSpec T := mkSpec T ⟨[], [0, 1, 5], [4503599627370496]⟩ laws_markIntS_2_sv laws_markIntS_2_so (Unit) (Int × Int × List Int) laws_markIntS_2_emb laws_markIntS_2_prj (laws_markIntS_2_b n)
noncomputable def laws_markIntS_2_c : Code := ((loopCodes laws_markIntS_code)[0]?).getD .skip
def laws_markIntS_ann : Ann := fun id => bif Nat.beq id 3000002 then some ⟨[], [1], [4503599627370496]⟩ else none
def laws_markIntS_Ls (n : Nat) : Nat → Option (LSpec T) := fun id => bif Nat.beq id 2 then some (laws_markIntS_2_sp n) else none
theorem laws_markIntS_2_le (n : Nat) : LoopEq (T := T) (Phi n 54) (laws_markIntS_Ls n) laws_markIntS_ann n laws_markIntS_2_c (laws_markIntS_2_sp n) := ⟨mkSpec_dec (fun y => rfl), fun c x => by kernel_rfl, fun K J c x => by kernel_rfl⟩
theorem laws_markIntS_tie (n : Nat) (a0 : List Int) (k1 : Int) : evF (T := T) (Phi n 54) (laws_markIntS_Ls n) laws_markIntS_ann n Try.f40 (sg 40) [vA T 55 a0, vA T 3 k1] laws_markIntS_dec = laws_markIntS n a0 k1 := by kernel_rfl
theorem laws_markIntS_lo (n : Nat) : LoopsOk (T := T) (Phi n 54) (laws_markIntS_Ls n) laws_markIntS_ann n laws_markIntS_code := loopsOk_all (cs := [laws_markIntS_2_c]) (by kernel_rfl) ⟨⟨_, by kernel_rfl, laws_markIntS_2_le n⟩, trivial⟩
theorem laws_markIntS_ok (n : Nat) : EntOk Try.prog (ents n) (laws_markIntS_ent n) := by
  intro hs ar y hg h
  replace h : laws_markIntS_D n ar = some y := h
  unfold laws_markIntS_D at h
  replace h := ocons_some h
  obtain ⟨a0, r0, rfl, h⟩ := h
  replace h := ocons_some h
  obtain ⟨a1, r1, rfl, h⟩ := h
  replace h := onil_some h
  obtain ⟨rfl, h⟩ := h
  obtain ⟨a0, qh0, h⟩ := obind_some h
  obtain ⟨k1, qh1, h⟩ := obind_some h
  rw [argV_eq ok qh0, argV_eq ok qh1]
  exact call_of (phiE_nat _ _) hs ok mixed Try.func40 (c := laws_markIntS_code) (by kernel_rfl) (laws_markIntS_lo n) (by kernel_rfl) (by kernel_rfl) (by kernel_rfl) laws_markIntS_de ((laws_markIntS_tie n a0 k1).trans h)
noncomputable def laws_markText_code : Code := match Try.f194.body with | some c => c | none => .skip
def laws_markText_4_sv : List Sv := [.one (.int .i64), .one (.str)]
def laws_markText_4_so : List So := []
def laws_markText_4_emb (c : Unit) (x : Int × ByteArray) : EVs T laws_markText_4_sv × EOs T laws_markText_4_so := ((x.1, x.2, ()), ())
def laws_markText_4_prj (y : EVs T laws_markText_4_sv × EOs T laws_markText_4_so) : Unit × (Int × ByteArray) := ((), (y.1.1, y.1.2.1))
def laws_markText_4_b (n : Nat) {R : Type} (K : Ex → Sm.St T → Option R) (c : Unit) (x : Int × ByteArray) (J : (Int × ByteArray) → Option R) : Option R :=
  laws_markText_L4 n (fun (y0 : ByteArray) => K (.exit 0) (stOf (T := T) [3] [] [.one (.str)] [] (y0, ()) ())) (fun z0 z1 => J (z0, z1)) x.1 x.2
def laws_markText_4_sp (n : Nat) : LSpec T := mkSpec T ⟨[], [0, 3], []⟩ laws_markText_4_sv laws_markText_4_so (Unit) (Int × ByteArray) laws_markText_4_emb laws_markText_4_prj (laws_markText_4_b n)
noncomputable def laws_markText_4_c : Code := ((loopCodes laws_markText_code)[0]?).getD .skip
def laws_markText_ann : Ann := fun id => bif Nat.beq id 3000004 then some ⟨[], [3], []⟩ else none
def laws_markText_Ls (n : Nat) : Nat → Option (LSpec T) := fun id => bif Nat.beq id 4 then some (laws_markText_4_sp n) else none
theorem laws_markText_4_le (n : Nat) : LoopEq (T := T) (Phi n 55) (laws_markText_Ls n) laws_markText_ann n laws_markText_4_c (laws_markText_4_sp n) := ⟨mkSpec_dec (fun y => rfl), fun c x => by kernel_rfl, fun K J c x => by kernel_rfl⟩
theorem laws_markText_tie (n : Nat) (k0 : Int) : evF (T := T) (Phi n 55) (laws_markText_Ls n) laws_markText_ann n Try.f194 (sg 194) [vA T 3 k0] laws_markText_dec = laws_markText n k0 := by kernel_rfl
theorem laws_markText_lo (n : Nat) : LoopsOk (T := T) (Phi n 55) (laws_markText_Ls n) laws_markText_ann n laws_markText_code := loopsOk_all (cs := [laws_markText_4_c]) (by kernel_rfl) ⟨⟨_, by kernel_rfl, laws_markText_4_le n⟩, trivial⟩
theorem laws_markText_ok (n : Nat) : EntOk Try.prog (ents n) (laws_markText_ent n) := by
  intro hs ar y hg h
  replace h : laws_markText_D n ar = some y := h
  unfold laws_markText_D at h
  replace h := ocons_some h
  obtain ⟨a0, r0, rfl, h⟩ := h
  replace h := onil_some h
  obtain ⟨rfl, h⟩ := h
  obtain ⟨k0, qh0, h⟩ := obind_some h
  rw [argV_eq ok qh0]
  exact call_of (phiE_nat _ _) hs ok mixed Try.func194 (c := laws_markText_code) (by kernel_rfl) (laws_markText_lo n) (by kernel_rfl) (by kernel_rfl) (by kernel_rfl) laws_markText_de ((laws_markText_tie n k0).trans h)
noncomputable def laws_markFeatureS_code : Code := match Try.f115.body with | some c => c | none => .skip
def laws_markFeatureS_2_sv : List Sv := [.one (.own 4503599627370496 181 false), .one (.int .i64), .one (.int .i64)]
def laws_markFeatureS_2_so : List So := [.arr 181 true]
def laws_markFeatureS_2_emb (c : Unit) (x : Int × Int × List SFeature) : EVs T laws_markFeatureS_2_sv × EOs T laws_markFeatureS_2_so := (((), x.1, x.2.1, ()), (x.2.2, ()))
def laws_markFeatureS_2_prj (y : EVs T laws_markFeatureS_2_sv × EOs T laws_markFeatureS_2_so) : Unit × (Int × Int × List SFeature) := ((), (y.1.2.1, y.1.2.2.1, y.2.1))
def laws_markFeatureS_2_b (n : Nat) {R : Type} (K : Ex → Sm.St T → Option R) (c : Unit) (x : Int × Int × List SFeature) (J : (Int × Int × List SFeature) → Option R) : Option R :=
  laws_markFeatureS_L2 n (fun (y0 : Int) (y1 : List SFeature) => K (.exit 0) (stOf (T := T) [1] [4503599627370496] [.one (.int .i64)] [.arr 181 true] (y0, ()) (y1, ()))) (fun z0 z1 z2 => J (z0, z1, z2)) x.1 x.2.1 x.2.2
def laws_markFeatureS_2_sp (n : Nat) : LSpec T := mkSpec T ⟨[], [0, 1, 5], [4503599627370496]⟩ laws_markFeatureS_2_sv laws_markFeatureS_2_so (Unit) (Int × Int × List SFeature) laws_markFeatureS_2_emb laws_markFeatureS_2_prj (laws_markFeatureS_2_b n)
noncomputable def laws_markFeatureS_2_c : Code := ((loopCodes laws_markFeatureS_code)[0]?).getD .skip
def laws_markFeatureS_ann : Ann := fun id => bif Nat.beq id 3000002 then some ⟨[], [1], [4503599627370496]⟩ else none
def laws_markFeatureS_Ls (n : Nat) : Nat → Option (LSpec T) := fun id => bif Nat.beq id 2 then some (laws_markFeatureS_2_sp n) else none
theorem laws_markFeatureS_2_le (n : Nat) : LoopEq (T := T) (Phi n 56) (laws_markFeatureS_Ls n) laws_markFeatureS_ann n laws_markFeatureS_2_c (laws_markFeatureS_2_sp n) := ⟨mkSpec_dec (fun y => rfl), fun c x => by kernel_rfl, fun K J c x => by kernel_rfl⟩
theorem laws_markFeatureS_tie (n : Nat) (a0 : List SFeature) (k1 : Int) : evF (T := T) (Phi n 56) (laws_markFeatureS_Ls n) laws_markFeatureS_ann n Try.f115 (sg 115) [vA T 61 a0, vA T 3 k1] laws_markFeatureS_dec = laws_markFeatureS n a0 k1 := by kernel_rfl
theorem laws_markFeatureS_lo (n : Nat) : LoopsOk (T := T) (Phi n 56) (laws_markFeatureS_Ls n) laws_markFeatureS_ann n laws_markFeatureS_code := loopsOk_all (cs := [laws_markFeatureS_2_c]) (by kernel_rfl) ⟨⟨_, by kernel_rfl, laws_markFeatureS_2_le n⟩, trivial⟩
theorem laws_markFeatureS_ok (n : Nat) : EntOk Try.prog (ents n) (laws_markFeatureS_ent n) := by
  intro hs ar y hg h
  replace h : laws_markFeatureS_D n ar = some y := h
  unfold laws_markFeatureS_D at h
  replace h := ocons_some h
  obtain ⟨a0, r0, rfl, h⟩ := h
  replace h := ocons_some h
  obtain ⟨a1, r1, rfl, h⟩ := h
  replace h := onil_some h
  obtain ⟨rfl, h⟩ := h
  obtain ⟨a0, qh0, h⟩ := obind_some h
  obtain ⟨k1, qh1, h⟩ := obind_some h
  rw [argV_eq ok qh0, argV_eq ok qh1]
  exact call_of (phiE_nat _ _) hs ok mixed Try.func115 (c := laws_markFeatureS_code) (by kernel_rfl) (laws_markFeatureS_lo n) (by kernel_rfl) (by kernel_rfl) (by kernel_rfl) laws_markFeatureS_de ((laws_markFeatureS_tie n a0 k1).trans h)
noncomputable def laws_markChart_code : Code := match Try.f39.body with | some c => c | none => .skip
def laws_markChart_ann : Ann := fun id => none
def laws_markChart_Ls (n : Nat) : Nat → Option (LSpec T) := fun id => none
theorem laws_markChart_tie (n : Nat) (a0 : SChart) (k1 : Int) : evF (T := T) (Phi n 57) (laws_markChart_Ls n) laws_markChart_ann n Try.f39 (sg 39) [vA T 63 a0, vA T 3 k1] laws_markChart_dec = laws_markChart n a0 k1 := by kernel_rfl
theorem laws_markChart_lo (n : Nat) : LoopsOk (T := T) (Phi n 57) (laws_markChart_Ls n) laws_markChart_ann n laws_markChart_code := loopsOk_all (cs := []) (by kernel_rfl) trivial
theorem laws_markChart_ok (n : Nat) : EntOk Try.prog (ents n) (laws_markChart_ent n) := by
  intro hs ar y hg h
  replace h : laws_markChart_D n ar = some y := h
  unfold laws_markChart_D at h
  replace h := ocons_some h
  obtain ⟨a0, r0, rfl, h⟩ := h
  replace h := ocons_some h
  obtain ⟨a1, r1, rfl, h⟩ := h
  replace h := onil_some h
  obtain ⟨rfl, h⟩ := h
  obtain ⟨a0, qh0, h⟩ := obind_some h
  obtain ⟨k1, qh1, h⟩ := obind_some h
  rw [argV_eq ok qh0, argV_eq ok qh1]
  exact call_of (phiE_nat _ _) hs ok mixed Try.func39 (c := laws_markChart_code) (by kernel_rfl) (laws_markChart_lo n) (by kernel_rfl) (by kernel_rfl) (by kernel_rfl) laws_markChart_de ((laws_markChart_tie n a0 k1).trans h)
noncomputable def laws_markNoteS_code : Code := match Try.f136.body with | some c => c | none => .skip
def laws_markNoteS_2_sv : List Sv := [.one (.own 4503599627370496 196 false), .one (.int .i64), .one (.int .i64)]
def laws_markNoteS_2_so : List So := [.arr 196 true]
def laws_markNoteS_2_emb (c : Unit) (x : Int × Int × List SNote) : EVs T laws_markNoteS_2_sv × EOs T laws_markNoteS_2_so := (((), x.1, x.2.1, ()), (x.2.2, ()))
def laws_markNoteS_2_prj (y : EVs T laws_markNoteS_2_sv × EOs T laws_markNoteS_2_so) : Unit × (Int × Int × List SNote) := ((), (y.1.2.1, y.1.2.2.1, y.2.1))
def laws_markNoteS_2_b (n : Nat) {R : Type} (K : Ex → Sm.St T → Option R) (c : Unit) (x : Int × Int × List SNote) (J : (Int × Int × List SNote) → Option R) : Option R :=
  laws_markNoteS_L2 n (fun (y0 : Int) (y1 : List SNote) => K (.exit 0) (stOf (T := T) [1] [4503599627370496] [.one (.int .i64)] [.arr 196 true] (y0, ()) (y1, ()))) (fun z0 z1 z2 => J (z0, z1, z2)) x.1 x.2.1 x.2.2
def laws_markNoteS_2_sp (n : Nat) : LSpec T := mkSpec T ⟨[], [0, 1, 5], [4503599627370496]⟩ laws_markNoteS_2_sv laws_markNoteS_2_so (Unit) (Int × Int × List SNote) laws_markNoteS_2_emb laws_markNoteS_2_prj (laws_markNoteS_2_b n)
noncomputable def laws_markNoteS_2_c : Code := ((loopCodes laws_markNoteS_code)[0]?).getD .skip
def laws_markNoteS_ann : Ann := fun id => bif Nat.beq id 3000002 then some ⟨[], [1], [4503599627370496]⟩ else none
def laws_markNoteS_Ls (n : Nat) : Nat → Option (LSpec T) := fun id => bif Nat.beq id 2 then some (laws_markNoteS_2_sp n) else none
theorem laws_markNoteS_2_le (n : Nat) : LoopEq (T := T) (Phi n 58) (laws_markNoteS_Ls n) laws_markNoteS_ann n laws_markNoteS_2_c (laws_markNoteS_2_sp n) := ⟨mkSpec_dec (fun y => rfl), fun c x => by kernel_rfl, fun K J c x => by kernel_rfl⟩
theorem laws_markNoteS_tie (n : Nat) (a0 : List SNote) (k1 : Int) : evF (T := T) (Phi n 58) (laws_markNoteS_Ls n) laws_markNoteS_ann n Try.f136 (sg 136) [vA T 83 a0, vA T 3 k1] laws_markNoteS_dec = laws_markNoteS n a0 k1 := by kernel_rfl
theorem laws_markNoteS_lo (n : Nat) : LoopsOk (T := T) (Phi n 58) (laws_markNoteS_Ls n) laws_markNoteS_ann n laws_markNoteS_code := loopsOk_all (cs := [laws_markNoteS_2_c]) (by kernel_rfl) ⟨⟨_, by kernel_rfl, laws_markNoteS_2_le n⟩, trivial⟩
theorem laws_markNoteS_ok (n : Nat) : EntOk Try.prog (ents n) (laws_markNoteS_ent n) := by
  intro hs ar y hg h
  replace h : laws_markNoteS_D n ar = some y := h
  unfold laws_markNoteS_D at h
  replace h := ocons_some h
  obtain ⟨a0, r0, rfl, h⟩ := h
  replace h := ocons_some h
  obtain ⟨a1, r1, rfl, h⟩ := h
  replace h := onil_some h
  obtain ⟨rfl, h⟩ := h
  obtain ⟨a0, qh0, h⟩ := obind_some h
  obtain ⟨k1, qh1, h⟩ := obind_some h
  rw [argV_eq ok qh0, argV_eq ok qh1]
  exact call_of (phiE_nat _ _) hs ok mixed Try.func136 (c := laws_markNoteS_code) (by kernel_rfl) (laws_markNoteS_lo n) (by kernel_rfl) (by kernel_rfl) (by kernel_rfl) laws_markNoteS_de ((laws_markNoteS_tie n a0 k1).trans h)
noncomputable def laws_markUpdateS_code : Code := match Try.f61.body with | some c => c | none => .skip
def laws_markUpdateS_2_sv : List Sv := [.one (.own 4503599627370496 85 false), .one (.int .i64), .one (.int .i64)]
def laws_markUpdateS_2_so : List So := [.arr 85 true]
def laws_markUpdateS_2_emb (c : Unit) (x : Int × Int × List SUpdate) : EVs T laws_markUpdateS_2_sv × EOs T laws_markUpdateS_2_so := (((), x.1, x.2.1, ()), (x.2.2, ()))
def laws_markUpdateS_2_prj (y : EVs T laws_markUpdateS_2_sv × EOs T laws_markUpdateS_2_so) : Unit × (Int × Int × List SUpdate) := ((), (y.1.2.1, y.1.2.2.1, y.2.1))
def laws_markUpdateS_2_b (n : Nat) {R : Type} (K : Ex → Sm.St T → Option R) (c : Unit) (x : Int × Int × List SUpdate) (J : (Int × Int × List SUpdate) → Option R) : Option R :=
  laws_markUpdateS_L2 n (fun (y0 : Int) (y1 : List SUpdate) => K (.exit 0) (stOf (T := T) [1] [4503599627370496] [.one (.int .i64)] [.arr 85 true] (y0, ()) (y1, ()))) (fun z0 z1 z2 => J (z0, z1, z2)) x.1 x.2.1 x.2.2
def laws_markUpdateS_2_sp (n : Nat) : LSpec T := mkSpec T ⟨[], [0, 1, 5], [4503599627370496]⟩ laws_markUpdateS_2_sv laws_markUpdateS_2_so (Unit) (Int × Int × List SUpdate) laws_markUpdateS_2_emb laws_markUpdateS_2_prj (laws_markUpdateS_2_b n)
noncomputable def laws_markUpdateS_2_c : Code := ((loopCodes laws_markUpdateS_code)[0]?).getD .skip
def laws_markUpdateS_ann : Ann := fun id => bif Nat.beq id 3000002 then some ⟨[], [1], [4503599627370496]⟩ else none
def laws_markUpdateS_Ls (n : Nat) : Nat → Option (LSpec T) := fun id => bif Nat.beq id 2 then some (laws_markUpdateS_2_sp n) else none
theorem laws_markUpdateS_2_le (n : Nat) : LoopEq (T := T) (Phi n 59) (laws_markUpdateS_Ls n) laws_markUpdateS_ann n laws_markUpdateS_2_c (laws_markUpdateS_2_sp n) := ⟨mkSpec_dec (fun y => rfl), fun c x => by kernel_rfl, fun K J c x => by kernel_rfl⟩
theorem laws_markUpdateS_tie (n : Nat) (a0 : List SUpdate) (k1 : Int) : evF (T := T) (Phi n 59) (laws_markUpdateS_Ls n) laws_markUpdateS_ann n Try.f61 (sg 61) [vA T 94 a0, vA T 3 k1] laws_markUpdateS_dec = laws_markUpdateS n a0 k1 := by kernel_rfl
theorem laws_markUpdateS_lo (n : Nat) : LoopsOk (T := T) (Phi n 59) (laws_markUpdateS_Ls n) laws_markUpdateS_ann n laws_markUpdateS_code := loopsOk_all (cs := [laws_markUpdateS_2_c]) (by kernel_rfl) ⟨⟨_, by kernel_rfl, laws_markUpdateS_2_le n⟩, trivial⟩
theorem laws_markUpdateS_ok (n : Nat) : EntOk Try.prog (ents n) (laws_markUpdateS_ent n) := by
  intro hs ar y hg h
  replace h : laws_markUpdateS_D n ar = some y := h
  unfold laws_markUpdateS_D at h
  replace h := ocons_some h
  obtain ⟨a0, r0, rfl, h⟩ := h
  replace h := ocons_some h
  obtain ⟨a1, r1, rfl, h⟩ := h
  replace h := onil_some h
  obtain ⟨rfl, h⟩ := h
  obtain ⟨a0, qh0, h⟩ := obind_some h
  obtain ⟨k1, qh1, h⟩ := obind_some h
  rw [argV_eq ok qh0, argV_eq ok qh1]
  exact call_of (phiE_nat _ _) hs ok mixed Try.func61 (c := laws_markUpdateS_code) (by kernel_rfl) (laws_markUpdateS_lo n) (by kernel_rfl) (by kernel_rfl) (by kernel_rfl) laws_markUpdateS_de ((laws_markUpdateS_tie n a0 k1).trans h)
noncomputable def laws_heldIntS_code : Code := match Try.f41.body with | some c => c | none => .skip
def laws_heldIntS_2_sv : List Sv := [.one (.arr 3), .one (.int .i64), .one (.int .i64)]
def laws_heldIntS_2_so : List So := []
def laws_heldIntS_2_emb (c : List Int) (x : Int × Int) : EVs T laws_heldIntS_2_sv × EOs T laws_heldIntS_2_so := ((c, x.1, x.2, ()), ())
def laws_heldIntS_2_prj (y : EVs T laws_heldIntS_2_sv × EOs T laws_heldIntS_2_so) : List Int × (Int × Int) := ((y.1.1), (y.1.2.1, y.1.2.2.1))
def laws_heldIntS_2_b (n : Nat) {R : Type} (K : Ex → Sm.St T → Option R) (c : List Int) (x : Int × Int) (J : (Int × Int) → Option R) : Option R :=
  laws_heldIntS_L2 n (fun (y0 : Int) => K (.exit 0) (stOf (T := T) [1] [] [.one (.int .i64)] [] (y0, ()) ())) (fun (y0 : Int) => K .ret (stOf (T := T) [4] [] [.one (.int .i64)] [] (y0, ()) ())) (fun z0 z1 => J (z0, z1)) c x.1 x.2
def laws_heldIntS_2_sp (n : Nat) : LSpec T := mkSpec T ⟨[], [0, 1, 5], []⟩ laws_heldIntS_2_sv laws_heldIntS_2_so (List Int) (Int × Int) laws_heldIntS_2_emb laws_heldIntS_2_prj (laws_heldIntS_2_b n)
noncomputable def laws_heldIntS_2_c : Code := ((loopCodes laws_heldIntS_code)[0]?).getD .skip
def laws_heldIntS_ann : Ann := fun id => bif Nat.beq id 3000002 then some ⟨[], [1], []⟩ else bif Nat.beq id 2000002 then some ⟨[], [4], []⟩ else none
def laws_heldIntS_Ls (n : Nat) : Nat → Option (LSpec T) := fun id => bif Nat.beq id 2 then some (laws_heldIntS_2_sp n) else none
theorem laws_heldIntS_2_le (n : Nat) : LoopEq (T := T) (Phi n 60) (laws_heldIntS_Ls n) laws_heldIntS_ann n laws_heldIntS_2_c (laws_heldIntS_2_sp n) := ⟨mkSpec_dec (fun y => rfl), fun c x => by kernel_rfl, fun K J c x => by kernel_rfl⟩
theorem laws_heldIntS_tie (n : Nat) (a0 : List Int) (k1 : Int) : evF (T := T) (Phi n 60) (laws_heldIntS_Ls n) laws_heldIntS_ann n Try.f41 (sg 41) [vA T 55 a0, vA T 3 k1] laws_heldIntS_dec = laws_heldIntS n a0 k1 := by kernel_rfl
theorem laws_heldIntS_lo (n : Nat) : LoopsOk (T := T) (Phi n 60) (laws_heldIntS_Ls n) laws_heldIntS_ann n laws_heldIntS_code := loopsOk_all (cs := [laws_heldIntS_2_c]) (by kernel_rfl) ⟨⟨_, by kernel_rfl, laws_heldIntS_2_le n⟩, trivial⟩
theorem laws_heldIntS_ok (n : Nat) : EntOk Try.prog (ents n) (laws_heldIntS_ent n) := by
  intro hs ar y hg h
  replace h : laws_heldIntS_D n ar = some y := h
  unfold laws_heldIntS_D at h
  replace h := ocons_some h
  obtain ⟨a0, r0, rfl, h⟩ := h
  replace h := ocons_some h
  obtain ⟨a1, r1, rfl, h⟩ := h
  replace h := onil_some h
  obtain ⟨rfl, h⟩ := h
  obtain ⟨a0, qh0, h⟩ := obind_some h
  obtain ⟨k1, qh1, h⟩ := obind_some h
  rw [argV_eq ok qh0, argV_eq ok qh1]
  exact call_of (phiE_nat _ _) hs ok mixed Try.func41 (c := laws_heldIntS_code) (by kernel_rfl) (laws_heldIntS_lo n) (by kernel_rfl) (by kernel_rfl) (by kernel_rfl) laws_heldIntS_de ((laws_heldIntS_tie n a0 k1).trans h)
noncomputable def laws_heldFeatureS_code : Code := match Try.f137.body with | some c => c | none => .skip
def laws_heldFeatureS_2_sv : List Sv := [.one (.arr 181), .one (.int .i64), .one (.int .i64)]
def laws_heldFeatureS_2_so : List So := []
def laws_heldFeatureS_2_emb (c : List SFeature) (x : Int × Int) : EVs T laws_heldFeatureS_2_sv × EOs T laws_heldFeatureS_2_so := ((c, x.1, x.2, ()), ())
def laws_heldFeatureS_2_prj (y : EVs T laws_heldFeatureS_2_sv × EOs T laws_heldFeatureS_2_so) : List SFeature × (Int × Int) := ((y.1.1), (y.1.2.1, y.1.2.2.1))
def laws_heldFeatureS_2_b (n : Nat) {R : Type} (K : Ex → Sm.St T → Option R) (c : List SFeature) (x : Int × Int) (J : (Int × Int) → Option R) : Option R :=
  laws_heldFeatureS_L2 n (fun (y0 : Int) => K (.exit 0) (stOf (T := T) [1] [] [.one (.int .i64)] [] (y0, ()) ())) (fun (y0 : Int) => K .ret (stOf (T := T) [4] [] [.one (.int .i64)] [] (y0, ()) ())) (fun z0 z1 => J (z0, z1)) c x.1 x.2
def laws_heldFeatureS_2_sp (n : Nat) : LSpec T := mkSpec T ⟨[], [0, 1, 5], []⟩ laws_heldFeatureS_2_sv laws_heldFeatureS_2_so (List SFeature) (Int × Int) laws_heldFeatureS_2_emb laws_heldFeatureS_2_prj (laws_heldFeatureS_2_b n)
noncomputable def laws_heldFeatureS_2_c : Code := ((loopCodes laws_heldFeatureS_code)[0]?).getD .skip
def laws_heldFeatureS_ann : Ann := fun id => bif Nat.beq id 3000002 then some ⟨[], [1], []⟩ else bif Nat.beq id 2000002 then some ⟨[], [4], []⟩ else none
def laws_heldFeatureS_Ls (n : Nat) : Nat → Option (LSpec T) := fun id => bif Nat.beq id 2 then some (laws_heldFeatureS_2_sp n) else none
theorem laws_heldFeatureS_2_le (n : Nat) : LoopEq (T := T) (Phi n 61) (laws_heldFeatureS_Ls n) laws_heldFeatureS_ann n laws_heldFeatureS_2_c (laws_heldFeatureS_2_sp n) := ⟨mkSpec_dec (fun y => rfl), fun c x => by kernel_rfl, fun K J c x => by kernel_rfl⟩
theorem laws_heldFeatureS_tie (n : Nat) (a0 : List SFeature) (k1 : Int) : evF (T := T) (Phi n 61) (laws_heldFeatureS_Ls n) laws_heldFeatureS_ann n Try.f137 (sg 137) [vA T 61 a0, vA T 3 k1] laws_heldFeatureS_dec = laws_heldFeatureS n a0 k1 := by kernel_rfl
theorem laws_heldFeatureS_lo (n : Nat) : LoopsOk (T := T) (Phi n 61) (laws_heldFeatureS_Ls n) laws_heldFeatureS_ann n laws_heldFeatureS_code := loopsOk_all (cs := [laws_heldFeatureS_2_c]) (by kernel_rfl) ⟨⟨_, by kernel_rfl, laws_heldFeatureS_2_le n⟩, trivial⟩
theorem laws_heldFeatureS_ok (n : Nat) : EntOk Try.prog (ents n) (laws_heldFeatureS_ent n) := by
  intro hs ar y hg h
  replace h : laws_heldFeatureS_D n ar = some y := h
  unfold laws_heldFeatureS_D at h
  replace h := ocons_some h
  obtain ⟨a0, r0, rfl, h⟩ := h
  replace h := ocons_some h
  obtain ⟨a1, r1, rfl, h⟩ := h
  replace h := onil_some h
  obtain ⟨rfl, h⟩ := h
  obtain ⟨a0, qh0, h⟩ := obind_some h
  obtain ⟨k1, qh1, h⟩ := obind_some h
  rw [argV_eq ok qh0, argV_eq ok qh1]
  exact call_of (phiE_nat _ _) hs ok mixed Try.func137 (c := laws_heldFeatureS_code) (by kernel_rfl) (laws_heldFeatureS_lo n) (by kernel_rfl) (by kernel_rfl) (by kernel_rfl) laws_heldFeatureS_de ((laws_heldFeatureS_tie n a0 k1).trans h)
noncomputable def laws_heldChart_code : Code := match Try.f55.body with | some c => c | none => .skip
def laws_heldChart_ann : Ann := fun id => none
def laws_heldChart_Ls (n : Nat) : Nat → Option (LSpec T) := fun id => none
theorem laws_heldChart_tie (n : Nat) (a0 : SChart) (k1 : Int) : evF (T := T) (Phi n 62) (laws_heldChart_Ls n) laws_heldChart_ann n Try.f55 (sg 55) [vA T 63 a0, vA T 3 k1] laws_heldChart_dec = laws_heldChart n a0 k1 := by kernel_rfl
theorem laws_heldChart_lo (n : Nat) : LoopsOk (T := T) (Phi n 62) (laws_heldChart_Ls n) laws_heldChart_ann n laws_heldChart_code := loopsOk_all (cs := []) (by kernel_rfl) trivial
theorem laws_heldChart_ok (n : Nat) : EntOk Try.prog (ents n) (laws_heldChart_ent n) := by
  intro hs ar y hg h
  replace h : laws_heldChart_D n ar = some y := h
  unfold laws_heldChart_D at h
  replace h := ocons_some h
  obtain ⟨a0, r0, rfl, h⟩ := h
  replace h := ocons_some h
  obtain ⟨a1, r1, rfl, h⟩ := h
  replace h := onil_some h
  obtain ⟨rfl, h⟩ := h
  obtain ⟨a0, qh0, h⟩ := obind_some h
  obtain ⟨k1, qh1, h⟩ := obind_some h
  rw [argV_eq ok qh0, argV_eq ok qh1]
  exact call_of (phiE_nat _ _) hs ok mixed Try.func55 (c := laws_heldChart_code) (by kernel_rfl) (laws_heldChart_lo n) (by kernel_rfl) (by kernel_rfl) (by kernel_rfl) laws_heldChart_de ((laws_heldChart_tie n a0 k1).trans h)
noncomputable def laws_FnExactCatch_code : Code := match Try.f9.body with | some c => c | none => .skip
def laws_FnExactCatch_ann : Ann := fun id => none
def laws_FnExactCatch_Ls (n : Nat) : Nat → Option (LSpec T) := fun id => none
theorem laws_FnExactCatch_tie (n : Nat) (aC0 : SChart) (aList1 : List SUpdate) : evF (T := T) (Phi n 63) (laws_FnExactCatch_Ls n) laws_FnExactCatch_ann n Try.f9 (sg 9) [vA T 58 aC0, vA T 90 aList1] laws_FnExactCatch_dec = laws_FnExactCatch n aC0 aList1 := by kernel_rfl
theorem laws_FnExactCatch_lo (n : Nat) : LoopsOk (T := T) (Phi n 63) (laws_FnExactCatch_Ls n) laws_FnExactCatch_ann n laws_FnExactCatch_code := loopsOk_all (cs := []) (by kernel_rfl) trivial
theorem laws_FnExactCatch_ok (n : Nat) : EntOk Try.prog (ents n) (laws_FnExactCatch_ent n) := by
  intro hs ar y hg h
  replace h : laws_FnExactCatch_D n ar = some y := h
  unfold laws_FnExactCatch_D at h
  replace h := ocons_some h
  obtain ⟨a0, r0, rfl, h⟩ := h
  replace h := ocons_some h
  obtain ⟨a1, r1, rfl, h⟩ := h
  replace h := onil_some h
  obtain ⟨rfl, h⟩ := h
  obtain ⟨aC0, qh0, h⟩ := obind_some h
  obtain ⟨aList1, qh1, h⟩ := obind_some h
  rw [argV_eq ok qh0, argV_eq ok qh1]
  exact call_of (phiE_nat _ _) hs ok mixed Try.func9 (c := laws_FnExactCatch_code) (by kernel_rfl) (laws_FnExactCatch_lo n) (by kernel_rfl) (by kernel_rfl) (by kernel_rfl) laws_FnExactCatch_de ((laws_FnExactCatch_tie n aC0 aList1).trans h)
theorem entsOk (n : Nat) : EntsOk Try.prog (ents n) (ents n) := ⟨laws_szIntS_ok n, laws_szFeature_ok n, laws_szFeatureS_ok n, laws_szChart_ok n, laws_szNote_ok n, laws_szNoteS_ok n, laws_szUpdate_ok n, laws_szUpdateS_ok n, laws_toIntS_ok n, laws_toFeature_ok n, laws_toFeatureS_ok n, laws_toChart_ok n, laws_toNote_ok n, laws_toNoteS_ok n, laws_toUpdate_ok n, laws_toUpdateS_ok n, spec_l6Copy_ok n, spec_l1In_ok n, spec_l6Depth_ok n, spec_l6Place_ok n, spec_l6Feature_ok n, spec_ChartOk_ok n, spec_l6Find_ok n, spec_l6Note_ok n, spec_Apply6_ok n, spec_Catch_ok n, impl_own_int_ok n, impl_own_impl_Feature_ok n, impl_Chart_own_ok n, impl_in_ok n, impl_all_1_ok n, slices_IndexFunc_int_int__impl_all_1_ok n, slices_ContainsFunc_int_int__impl_all_1_ok n, impl_all_ok n, impl_Chart_place_ok n, impl_Chart_featureOk_ok n, impl_ChartOk_ok n, impl_Chart_note_1_ok n, slices_IndexFunc_impl_Feature_impl_Feature__impl_Chart_note_1_ok n, impl_Chart_note_2_ok n, slices_SortFunc_impl_Feature_impl_Feature__impl_Chart_note_2_ok n, slices_Delete_impl_Feature_impl_Feature_ok n, impl_depthOk_ok n, impl_Chart_note_ok n, impl_Apply6_ok n, impl_Catch_ok n, laws_eqIntS_ok n, laws_eqFeature_ok n, laws_eqFeatureS_ok n, laws_eqChart_ok n, laws_eqNote_ok n, laws_eqNoteS_ok n, laws_eqUpdate_ok n, laws_eqUpdateS_ok n, laws_markIntS_ok n, laws_markText_ok n, laws_markFeatureS_ok n, laws_markChart_ok n, laws_markNoteS_ok n, laws_markUpdateS_ok n, laws_heldIntS_ok n, laws_heldFeatureS_ok n, laws_heldChart_ok n, laws_FnExactCatch_ok n, trivial⟩
theorem sem (n i : Nat) : SemOk (Phi n i) (CallOk Try.prog T) := phiE_ok (entsOk n) i
end Go.Sm.B9
