import Derived.Test.YtjilmfkglikoeaaB7Tb
import Derived.Test.YtjilmfkglikoeaaEngE
import Derived.Test.YtjilmfkglikoeaaLay
import Derived.KernelRfl
/- Each function's code computes what the plain function computes. -/
set_option linter.unusedSimpArgs false
set_option linter.deprecated false
set_option linter.unusedSectionVars false
set_option linter.unusedVariables false
set_option maxRecDepth 100000
open Go Go.Proofs
noncomputable section
namespace Go.Sm.B7
/-- By recursors, and of a greater height than all of the functions: the kernel takes these apart first. -/
def obind {α β : Type} (o : Option α) (f : α → Option β) : Option β := let _ := @laws_FnExactNear6; Option.rec (motive := fun _ => Option β) none (fun a => f a) o
theorem obind_some {α β : Type} {o : Option α} {f : α → Option β} {y : β} (h : obind o f = some y) : ∃ a, o = some a ∧ f a = some y := by
  cases o with
  | none => cases h
  | some a => exact ⟨a, rfl, h⟩
def ocons {β : Type} (l : List (A T)) (f : A T → List (A T) → Option β) : Option β := let _ := @laws_FnExactNear6; List.rec (motive := fun _ => Option β) none (fun a r _ => f a r) l
theorem ocons_some {β : Type} {l : List (A T)} {f : A T → List (A T) → Option β} {y : β} (h : ocons l f = some y) : ∃ a r, l = a :: r ∧ f a r = some y := by
  cases l with
  | nil => cases h
  | cons a r => exact ⟨a, r, rfl, h⟩
def onil {β : Type} (l : List (A T)) (x : Option β) : Option β := let _ := @laws_FnExactNear6; List.rec (motive := fun _ => Option β) x (fun _ _ _ => none) l
theorem onil_some {β : Type} {l : List (A T)} {x : Option β} {y : β} (h : onil l x = some y) : l = [] ∧ x = some y := by
  cases l with
  | nil => exact ⟨rfl, h⟩
  | cons a r => cases h
def laws_szIntS_dec (res : Res T) : Option Int := match res.rets, res.outs with
  | [a0], [] => (retV (T := T) 3 a0).bind fun r0 => some (r0)
  | _, _ => none
def laws_szIntS_enc (y : Int) : Res T := ⟨[vR T 3 y], []⟩
theorem laws_szIntS_de (res : Res T) (y : Int) (h : laws_szIntS_dec res = some y) : res = laws_szIntS_enc y := by
  obtain ⟨rets, outs⟩ := res
  unfold laws_szIntS_dec at h
  dsimp only at h
  split at h
  · obtain ⟨r0, h0, h⟩ := Option.bind_eq_some_iff.1 h
    cases h
    rw [retV_eq ok h0]
    rfl
  · cases h
def laws_szFeature_dec (res : Res T) : Option Int := match res.rets, res.outs with
  | [a0], [] => (retV (T := T) 3 a0).bind fun r0 => some (r0)
  | _, _ => none
def laws_szFeature_enc (y : Int) : Res T := ⟨[vR T 3 y], []⟩
theorem laws_szFeature_de (res : Res T) (y : Int) (h : laws_szFeature_dec res = some y) : res = laws_szFeature_enc y := by
  obtain ⟨rets, outs⟩ := res
  unfold laws_szFeature_dec at h
  dsimp only at h
  split at h
  · obtain ⟨r0, h0, h⟩ := Option.bind_eq_some_iff.1 h
    cases h
    rw [retV_eq ok h0]
    rfl
  · cases h
def laws_szFeatureS_dec (res : Res T) : Option Int := match res.rets, res.outs with
  | [a0], [] => (retV (T := T) 3 a0).bind fun r0 => some (r0)
  | _, _ => none
def laws_szFeatureS_enc (y : Int) : Res T := ⟨[vR T 3 y], []⟩
theorem laws_szFeatureS_de (res : Res T) (y : Int) (h : laws_szFeatureS_dec res = some y) : res = laws_szFeatureS_enc y := by
  obtain ⟨rets, outs⟩ := res
  unfold laws_szFeatureS_dec at h
  dsimp only at h
  split at h
  · obtain ⟨r0, h0, h⟩ := Option.bind_eq_some_iff.1 h
    cases h
    rw [retV_eq ok h0]
    rfl
  · cases h
def laws_szChart_dec (res : Res T) : Option Int := match res.rets, res.outs with
  | [a0], [] => (retV (T := T) 3 a0).bind fun r0 => some (r0)
  | _, _ => none
def laws_szChart_enc (y : Int) : Res T := ⟨[vR T 3 y], []⟩
theorem laws_szChart_de (res : Res T) (y : Int) (h : laws_szChart_dec res = some y) : res = laws_szChart_enc y := by
  obtain ⟨rets, outs⟩ := res
  unfold laws_szChart_dec at h
  dsimp only at h
  split at h
  · obtain ⟨r0, h0, h⟩ := Option.bind_eq_some_iff.1 h
    cases h
    rw [retV_eq ok h0]
    rfl
  · cases h
def laws_toIntS_dec (res : Res T) : Option (List Int) := match res.rets, res.outs with
  | [a0], [] => (retV (T := T) 55 a0).bind fun r0 => some (r0)
  | _, _ => none
def laws_toIntS_enc (y : List Int) : Res T := ⟨[vR T 55 y], []⟩
theorem laws_toIntS_de (res : Res T) (y : List Int) (h : laws_toIntS_dec res = some y) : res = laws_toIntS_enc y := by
  obtain ⟨rets, outs⟩ := res
  unfold laws_toIntS_dec at h
  dsimp only at h
  split at h
  · obtain ⟨r0, h0, h⟩ := Option.bind_eq_some_iff.1 h
    cases h
    rw [retV_eq ok h0]
    rfl
  · cases h
def laws_toFeature_dec (res : Res T) : Option SFeature := match res.rets, res.outs with
  | [a0], [] => (retV (T := T) 181 a0).bind fun r0 => some (r0)
  | _, _ => none
def laws_toFeature_enc (y : SFeature) : Res T := ⟨[vR T 181 y], []⟩
theorem laws_toFeature_de (res : Res T) (y : SFeature) (h : laws_toFeature_dec res = some y) : res = laws_toFeature_enc y := by
  obtain ⟨rets, outs⟩ := res
  unfold laws_toFeature_dec at h
  dsimp only at h
  split at h
  · obtain ⟨r0, h0, h⟩ := Option.bind_eq_some_iff.1 h
    cases h
    rw [retV_eq ok h0]
    rfl
  · cases h
def laws_toFeatureS_dec (res : Res T) : Option (List SFeature) := match res.rets, res.outs with
  | [a0], [] => (retV (T := T) 61 a0).bind fun r0 => some (r0)
  | _, _ => none
def laws_toFeatureS_enc (y : List SFeature) : Res T := ⟨[vR T 61 y], []⟩
theorem laws_toFeatureS_de (res : Res T) (y : List SFeature) (h : laws_toFeatureS_dec res = some y) : res = laws_toFeatureS_enc y := by
  obtain ⟨rets, outs⟩ := res
  unfold laws_toFeatureS_dec at h
  dsimp only at h
  split at h
  · obtain ⟨r0, h0, h⟩ := Option.bind_eq_some_iff.1 h
    cases h
    rw [retV_eq ok h0]
    rfl
  · cases h
def laws_toChart_dec (res : Res T) : Option SChart := match res.rets, res.outs with
  | [a0], [] => (retV (T := T) 63 a0).bind fun r0 => some (r0)
  | _, _ => none
def laws_toChart_enc (y : SChart) : Res T := ⟨[vR T 63 y], []⟩
theorem laws_toChart_de (res : Res T) (y : SChart) (h : laws_toChart_dec res = some y) : res = laws_toChart_enc y := by
  obtain ⟨rets, outs⟩ := res
  unfold laws_toChart_dec at h
  dsimp only at h
  split at h
  · obtain ⟨r0, h0, h⟩ := Option.bind_eq_some_iff.1 h
    cases h
    rw [retV_eq ok h0]
    rfl
  · cases h
def spec_l1In_dec (res : Res T) : Option Bool := match res.rets, res.outs with
  | [a0], [] => (retV (T := T) 4 a0).bind fun r0 => some (r0)
  | _, _ => none
def spec_l1In_enc (y : Bool) : Res T := ⟨[vR T 4 y], []⟩
theorem spec_l1In_de (res : Res T) (y : Bool) (h : spec_l1In_dec res = some y) : res = spec_l1In_enc y := by
  obtain ⟨rets, outs⟩ := res
  unfold spec_l1In_dec at h
  dsimp only at h
  split at h
  · obtain ⟨r0, h0, h⟩ := Option.bind_eq_some_iff.1 h
    cases h
    rw [retV_eq ok h0]
    rfl
  · cases h
def spec_l6Depth_dec (res : Res T) : Option Bool := match res.rets, res.outs with
  | [a0], [] => (retV (T := T) 4 a0).bind fun r0 => some (r0)
  | _, _ => none
def spec_l6Depth_enc (y : Bool) : Res T := ⟨[vR T 4 y], []⟩
theorem spec_l6Depth_de (res : Res T) (y : Bool) (h : spec_l6Depth_dec res = some y) : res = spec_l6Depth_enc y := by
  obtain ⟨rets, outs⟩ := res
  unfold spec_l6Depth_dec at h
  dsimp only at h
  split at h
  · obtain ⟨r0, h0, h⟩ := Option.bind_eq_some_iff.1 h
    cases h
    rw [retV_eq ok h0]
    rfl
  · cases h
def spec_l6Place_dec (res : Res T) : Option Bool := match res.rets, res.outs with
  | [a0], [] => (retV (T := T) 4 a0).bind fun r0 => some (r0)
  | _, _ => none
def spec_l6Place_enc (y : Bool) : Res T := ⟨[vR T 4 y], []⟩
theorem spec_l6Place_de (res : Res T) (y : Bool) (h : spec_l6Place_dec res = some y) : res = spec_l6Place_enc y := by
  obtain ⟨rets, outs⟩ := res
  unfold spec_l6Place_dec at h
  dsimp only at h
  split at h
  · obtain ⟨r0, h0, h⟩ := Option.bind_eq_some_iff.1 h
    cases h
    rw [retV_eq ok h0]
    rfl
  · cases h
def spec_l6Feature_dec (res : Res T) : Option Bool := match res.rets, res.outs with
  | [a0], [] => (retV (T := T) 4 a0).bind fun r0 => some (r0)
  | _, _ => none
def spec_l6Feature_enc (y : Bool) : Res T := ⟨[vR T 4 y], []⟩
theorem spec_l6Feature_de (res : Res T) (y : Bool) (h : spec_l6Feature_dec res = some y) : res = spec_l6Feature_enc y := by
  obtain ⟨rets, outs⟩ := res
  unfold spec_l6Feature_dec at h
  dsimp only at h
  split at h
  · obtain ⟨r0, h0, h⟩ := Option.bind_eq_some_iff.1 h
    cases h
    rw [retV_eq ok h0]
    rfl
  · cases h
def spec_ChartOk_dec (res : Res T) : Option Bool := match res.rets, res.outs with
  | [a0], [] => (retV (T := T) 4 a0).bind fun r0 => some (r0)
  | _, _ => none
def spec_ChartOk_enc (y : Bool) : Res T := ⟨[vR T 4 y], []⟩
theorem spec_ChartOk_de (res : Res T) (y : Bool) (h : spec_ChartOk_dec res = some y) : res = spec_ChartOk_enc y := by
  obtain ⟨rets, outs⟩ := res
  unfold spec_ChartOk_dec at h
  dsimp only at h
  split at h
  · obtain ⟨r0, h0, h⟩ := Option.bind_eq_some_iff.1 h
    cases h
    rw [retV_eq ok h0]
    rfl
  · cases h
def spec_l3Size_dec (res : Res T) : Option Int := match res.rets, res.outs with
  | [a0], [] => (retV (T := T) 3 a0).bind fun r0 => some (r0)
  | _, _ => none
def spec_l3Size_enc (y : Int) : Res T := ⟨[vR T 3 y], []⟩
theorem spec_l3Size_de (res : Res T) (y : Int) (h : spec_l3Size_dec res = some y) : res = spec_l3Size_enc y := by
  obtain ⟨rets, outs⟩ := res
  unfold spec_l3Size_dec at h
  dsimp only at h
  split at h
  · obtain ⟨r0, h0, h⟩ := Option.bind_eq_some_iff.1 h
    cases h
    rw [retV_eq ok h0]
    rfl
  · cases h
def spec_Near6_dec (res : Res T) : Option (List Int) := match res.rets, res.outs with
  | [a0], [] => (retV (T := T) 55 a0).bind fun r0 => some (r0)
  | _, _ => none
def spec_Near6_enc (y : List Int) : Res T := ⟨[vR T 55 y], []⟩
theorem spec_Near6_de (res : Res T) (y : List Int) (h : spec_Near6_dec res = some y) : res = spec_Near6_enc y := by
  obtain ⟨rets, outs⟩ := res
  unfold spec_Near6_dec at h
  dsimp only at h
  split at h
  · obtain ⟨r0, h0, h⟩ := Option.bind_eq_some_iff.1 h
    cases h
    rw [retV_eq ok h0]
    rfl
  · cases h
def impl_in_dec (res : Res T) : Option Bool := match res.rets, res.outs with
  | [a0], [] => (retV (T := T) 4 a0).bind fun r0 => some (r0)
  | _, _ => none
def impl_in_enc (y : Bool) : Res T := ⟨[vR T 4 y], []⟩
theorem impl_in_de (res : Res T) (y : Bool) (h : impl_in_dec res = some y) : res = impl_in_enc y := by
  obtain ⟨rets, outs⟩ := res
  unfold impl_in_dec at h
  dsimp only at h
  split at h
  · obtain ⟨r0, h0, h⟩ := Option.bind_eq_some_iff.1 h
    cases h
    rw [retV_eq ok h0]
    rfl
  · cases h
def impl_all_1_dec (res : Res T) : Option Bool := match res.rets, res.outs with
  | [a0], [] => (retV (T := T) 4 a0).bind fun r0 => some (r0)
  | _, _ => none
def impl_all_1_enc (y : Bool) : Res T := ⟨[vR T 4 y], []⟩
theorem impl_all_1_de (res : Res T) (y : Bool) (h : impl_all_1_dec res = some y) : res = impl_all_1_enc y := by
  obtain ⟨rets, outs⟩ := res
  unfold impl_all_1_dec at h
  dsimp only at h
  split at h
  · obtain ⟨r0, h0, h⟩ := Option.bind_eq_some_iff.1 h
    cases h
    rw [retV_eq ok h0]
    rfl
  · cases h
def slices_IndexFunc_int_int__impl_all_1_dec (res : Res T) : Option Int := match res.rets, res.outs with
  | [a0], [] => (retV (T := T) 3 a0).bind fun r0 => some (r0)
  | _, _ => none
def slices_IndexFunc_int_int__impl_all_1_enc (y : Int) : Res T := ⟨[vR T 3 y], []⟩
theorem slices_IndexFunc_int_int__impl_all_1_de (res : Res T) (y : Int) (h : slices_IndexFunc_int_int__impl_all_1_dec res = some y) : res = slices_IndexFunc_int_int__impl_all_1_enc y := by
  obtain ⟨rets, outs⟩ := res
  unfold slices_IndexFunc_int_int__impl_all_1_dec at h
  dsimp only at h
  split at h
  · obtain ⟨r0, h0, h⟩ := Option.bind_eq_some_iff.1 h
    cases h
    rw [retV_eq ok h0]
    rfl
  · cases h
def slices_ContainsFunc_int_int__impl_all_1_dec (res : Res T) : Option Bool := match res.rets, res.outs with
  | [a0], [] => (retV (T := T) 4 a0).bind fun r0 => some (r0)
  | _, _ => none
def slices_ContainsFunc_int_int__impl_all_1_enc (y : Bool) : Res T := ⟨[vR T 4 y], []⟩
theorem slices_ContainsFunc_int_int__impl_all_1_de (res : Res T) (y : Bool) (h : slices_ContainsFunc_int_int__impl_all_1_dec res = some y) : res = slices_ContainsFunc_int_int__impl_all_1_enc y := by
  obtain ⟨rets, outs⟩ := res
  unfold slices_ContainsFunc_int_int__impl_all_1_dec at h
  dsimp only at h
  split at h
  · obtain ⟨r0, h0, h⟩ := Option.bind_eq_some_iff.1 h
    cases h
    rw [retV_eq ok h0]
    rfl
  · cases h
def impl_all_dec (res : Res T) : Option Bool := match res.rets, res.outs with
  | [a0], [] => (retV (T := T) 4 a0).bind fun r0 => some (r0)
  | _, _ => none
def impl_all_enc (y : Bool) : Res T := ⟨[vR T 4 y], []⟩
theorem impl_all_de (res : Res T) (y : Bool) (h : impl_all_dec res = some y) : res = impl_all_enc y := by
  obtain ⟨rets, outs⟩ := res
  unfold impl_all_dec at h
  dsimp only at h
  split at h
  · obtain ⟨r0, h0, h⟩ := Option.bind_eq_some_iff.1 h
    cases h
    rw [retV_eq ok h0]
    rfl
  · cases h
def impl_Chart_place_dec (res : Res T) : Option Bool := match res.rets, res.outs with
  | [a0], [] => (retV (T := T) 4 a0).bind fun r0 => some (r0)
  | _, _ => none
def impl_Chart_place_enc (y : Bool) : Res T := ⟨[vR T 4 y], []⟩
theorem impl_Chart_place_de (res : Res T) (y : Bool) (h : impl_Chart_place_dec res = some y) : res = impl_Chart_place_enc y := by
  obtain ⟨rets, outs⟩ := res
  unfold impl_Chart_place_dec at h
  dsimp only at h
  split at h
  · obtain ⟨r0, h0, h⟩ := Option.bind_eq_some_iff.1 h
    cases h
    rw [retV_eq ok h0]
    rfl
  · cases h
def impl_Chart_featureOk_dec (res : Res T) : Option Bool := match res.rets, res.outs with
  | [a0], [] => (retV (T := T) 4 a0).bind fun r0 => some (r0)
  | _, _ => none
def impl_Chart_featureOk_enc (y : Bool) : Res T := ⟨[vR T 4 y], []⟩
theorem impl_Chart_featureOk_de (res : Res T) (y : Bool) (h : impl_Chart_featureOk_dec res = some y) : res = impl_Chart_featureOk_enc y := by
  obtain ⟨rets, outs⟩ := res
  unfold impl_Chart_featureOk_dec at h
  dsimp only at h
  split at h
  · obtain ⟨r0, h0, h⟩ := Option.bind_eq_some_iff.1 h
    cases h
    rw [retV_eq ok h0]
    rfl
  · cases h
def impl_ChartOk_dec (res : Res T) : Option Bool := match res.rets, res.outs with
  | [a0], [] => (retV (T := T) 4 a0).bind fun r0 => some (r0)
  | _, _ => none
def impl_ChartOk_enc (y : Bool) : Res T := ⟨[vR T 4 y], []⟩
theorem impl_ChartOk_de (res : Res T) (y : Bool) (h : impl_ChartOk_dec res = some y) : res = impl_ChartOk_enc y := by
  obtain ⟨rets, outs⟩ := res
  unfold impl_ChartOk_dec at h
  dsimp only at h
  split at h
  · obtain ⟨r0, h0, h⟩ := Option.bind_eq_some_iff.1 h
    cases h
    rw [retV_eq ok h0]
    rfl
  · cases h
def impl_size_dec (res : Res T) : Option Int := match res.rets, res.outs with
  | [a0], [] => (retV (T := T) 3 a0).bind fun r0 => some (r0)
  | _, _ => none
def impl_size_enc (y : Int) : Res T := ⟨[vR T 3 y], []⟩
theorem impl_size_de (res : Res T) (y : Int) (h : impl_size_dec res = some y) : res = impl_size_enc y := by
  obtain ⟨rets, outs⟩ := res
  unfold impl_size_dec at h
  dsimp only at h
  split at h
  · obtain ⟨r0, h0, h⟩ := Option.bind_eq_some_iff.1 h
    cases h
    rw [retV_eq ok h0]
    rfl
  · cases h
def cmp_isNaN_int_dec (res : Res T) : Option Bool := match res.rets, res.outs with
  | [a0], [] => (retV (T := T) 4 a0).bind fun r0 => some (r0)
  | _, _ => none
def cmp_isNaN_int_enc (y : Bool) : Res T := ⟨[vR T 4 y], []⟩
theorem cmp_isNaN_int_de (res : Res T) (y : Bool) (h : cmp_isNaN_int_dec res = some y) : res = cmp_isNaN_int_enc y := by
  obtain ⟨rets, outs⟩ := res
  unfold cmp_isNaN_int_dec at h
  dsimp only at h
  split at h
  · obtain ⟨r0, h0, h⟩ := Option.bind_eq_some_iff.1 h
    cases h
    rw [retV_eq ok h0]
    rfl
  · cases h
def cmp_Compare_int_dec (res : Res T) : Option Int := match res.rets, res.outs with
  | [a0], [] => (retV (T := T) 3 a0).bind fun r0 => some (r0)
  | _, _ => none
def cmp_Compare_int_enc (y : Int) : Res T := ⟨[vR T 3 y], []⟩
theorem cmp_Compare_int_de (res : Res T) (y : Int) (h : cmp_Compare_int_dec res = some y) : res = cmp_Compare_int_enc y := by
  obtain ⟨rets, outs⟩ := res
  unfold cmp_Compare_int_dec at h
  dsimp only at h
  split at h
  · obtain ⟨r0, h0, h⟩ := Option.bind_eq_some_iff.1 h
    cases h
    rw [retV_eq ok h0]
    rfl
  · cases h
def slices_Compare_int_int_dec (res : Res T) : Option Int := match res.rets, res.outs with
  | [a0], [] => (retV (T := T) 3 a0).bind fun r0 => some (r0)
  | _, _ => none
def slices_Compare_int_int_enc (y : Int) : Res T := ⟨[vR T 3 y], []⟩
theorem slices_Compare_int_int_de (res : Res T) (y : Int) (h : slices_Compare_int_int_dec res = some y) : res = slices_Compare_int_int_enc y := by
  obtain ⟨rets, outs⟩ := res
  unfold slices_Compare_int_int_dec at h
  dsimp only at h
  split at h
  · obtain ⟨r0, h0, h⟩ := Option.bind_eq_some_iff.1 h
    cases h
    rw [retV_eq ok h0]
    rfl
  · cases h
def impl_Near6_1_dec (res : Res T) : Option Int := match res.rets, res.outs with
  | [a0], [] => (retV (T := T) 3 a0).bind fun r0 => some (r0)
  | _, _ => none
def impl_Near6_1_enc (y : Int) : Res T := ⟨[vR T 3 y], []⟩
theorem impl_Near6_1_de (res : Res T) (y : Int) (h : impl_Near6_1_dec res = some y) : res = impl_Near6_1_enc y := by
  obtain ⟨rets, outs⟩ := res
  unfold impl_Near6_1_dec at h
  dsimp only at h
  split at h
  · obtain ⟨r0, h0, h⟩ := Option.bind_eq_some_iff.1 h
    cases h
    rw [retV_eq ok h0]
    rfl
  · cases h
def slices_SortFunc_2_int_2_int__impl_Near6_1_dec (res : Res T) : Option (List SArr2_Int) := match res.rets, res.outs with
  | [], [b0] => (outS (T := T) 186 b0).bind fun r0 => some (r0)
  | _, _ => none
def slices_SortFunc_2_int_2_int__impl_Near6_1_enc (y : List SArr2_Int) : Res T := ⟨[], [.sl 186 y]⟩
theorem slices_SortFunc_2_int_2_int__impl_Near6_1_de (res : Res T) (y : List SArr2_Int) (h : slices_SortFunc_2_int_2_int__impl_Near6_1_dec res = some y) : res = slices_SortFunc_2_int_2_int__impl_Near6_1_enc y := by
  obtain ⟨rets, outs⟩ := res
  unfold slices_SortFunc_2_int_2_int__impl_Near6_1_dec at h
  dsimp only at h
  split at h
  · obtain ⟨r0, h0, h⟩ := Option.bind_eq_some_iff.1 h
    cases h
    rw [outS_eq h0]
    rfl
  · cases h
def impl_own_int_dec (res : Res T) : Option (List Int) := match res.rets, res.outs with
  | [a0], [] => (retV (T := T) 55 a0).bind fun r0 => some (r0)
  | _, _ => none
def impl_own_int_enc (y : List Int) : Res T := ⟨[vR T 55 y], []⟩
theorem impl_own_int_de (res : Res T) (y : List Int) (h : impl_own_int_dec res = some y) : res = impl_own_int_enc y := by
  obtain ⟨rets, outs⟩ := res
  unfold impl_own_int_dec at h
  dsimp only at h
  split at h
  · obtain ⟨r0, h0, h⟩ := Option.bind_eq_some_iff.1 h
    cases h
    rw [retV_eq ok h0]
    rfl
  · cases h
def impl_Near6_dec (res : Res T) : Option (List Int) := match res.rets, res.outs with
  | [a0], [] => (retV (T := T) 55 a0).bind fun r0 => some (r0)
  | _, _ => none
def impl_Near6_enc (y : List Int) : Res T := ⟨[vR T 55 y], []⟩
theorem impl_Near6_de (res : Res T) (y : List Int) (h : impl_Near6_dec res = some y) : res = impl_Near6_enc y := by
  obtain ⟨rets, outs⟩ := res
  unfold impl_Near6_dec at h
  dsimp only at h
  split at h
  · obtain ⟨r0, h0, h⟩ := Option.bind_eq_some_iff.1 h
    cases h
    rw [retV_eq ok h0]
    rfl
  · cases h
def laws_eqIntS_dec (res : Res T) : Option Bool := match res.rets, res.outs with
  | [a0], [] => (retV (T := T) 4 a0).bind fun r0 => some (r0)
  | _, _ => none
def laws_eqIntS_enc (y : Bool) : Res T := ⟨[vR T 4 y], []⟩
theorem laws_eqIntS_de (res : Res T) (y : Bool) (h : laws_eqIntS_dec res = some y) : res = laws_eqIntS_enc y := by
  obtain ⟨rets, outs⟩ := res
  unfold laws_eqIntS_dec at h
  dsimp only at h
  split at h
  · obtain ⟨r0, h0, h⟩ := Option.bind_eq_some_iff.1 h
    cases h
    rw [retV_eq ok h0]
    rfl
  · cases h
def laws_eqFeature_dec (res : Res T) : Option Bool := match res.rets, res.outs with
  | [a0], [] => (retV (T := T) 4 a0).bind fun r0 => some (r0)
  | _, _ => none
def laws_eqFeature_enc (y : Bool) : Res T := ⟨[vR T 4 y], []⟩
theorem laws_eqFeature_de (res : Res T) (y : Bool) (h : laws_eqFeature_dec res = some y) : res = laws_eqFeature_enc y := by
  obtain ⟨rets, outs⟩ := res
  unfold laws_eqFeature_dec at h
  dsimp only at h
  split at h
  · obtain ⟨r0, h0, h⟩ := Option.bind_eq_some_iff.1 h
    cases h
    rw [retV_eq ok h0]
    rfl
  · cases h
def laws_eqFeatureS_dec (res : Res T) : Option Bool := match res.rets, res.outs with
  | [a0], [] => (retV (T := T) 4 a0).bind fun r0 => some (r0)
  | _, _ => none
def laws_eqFeatureS_enc (y : Bool) : Res T := ⟨[vR T 4 y], []⟩
theorem laws_eqFeatureS_de (res : Res T) (y : Bool) (h : laws_eqFeatureS_dec res = some y) : res = laws_eqFeatureS_enc y := by
  obtain ⟨rets, outs⟩ := res
  unfold laws_eqFeatureS_dec at h
  dsimp only at h
  split at h
  · obtain ⟨r0, h0, h⟩ := Option.bind_eq_some_iff.1 h
    cases h
    rw [retV_eq ok h0]
    rfl
  · cases h
def laws_eqChart_dec (res : Res T) : Option Bool := match res.rets, res.outs with
  | [a0], [] => (retV (T := T) 4 a0).bind fun r0 => some (r0)
  | _, _ => none
def laws_eqChart_enc (y : Bool) : Res T := ⟨[vR T 4 y], []⟩
theorem laws_eqChart_de (res : Res T) (y : Bool) (h : laws_eqChart_dec res = some y) : res = laws_eqChart_enc y := by
  obtain ⟨rets, outs⟩ := res
  unfold laws_eqChart_dec at h
  dsimp only at h
  split at h
  · obtain ⟨r0, h0, h⟩ := Option.bind_eq_some_iff.1 h
    cases h
    rw [retV_eq ok h0]
    rfl
  · cases h
def laws_markIntS_dec (res : Res T) : Option (Int × List Int) := match res.rets, res.outs with
  | [a0], [b0] => (retV (T := T) 3 a0).bind fun r0 => (outS (T := T) 3 b0).bind fun r1 => some (r0, r1)
  | _, _ => none
def laws_markIntS_enc (y : Int × List Int) : Res T := ⟨[vR T 3 y.1], [.sl 3 y.2]⟩
theorem laws_markIntS_de (res : Res T) (y : Int × List Int) (h : laws_markIntS_dec res = some y) : res = laws_markIntS_enc y := by
  obtain ⟨rets, outs⟩ := res
  unfold laws_markIntS_dec at h
  dsimp only at h
  split at h
  · obtain ⟨r0, h0, h⟩ := Option.bind_eq_some_iff.1 h
    obtain ⟨r1, h1, h⟩ := Option.bind_eq_some_iff.1 h
    cases h
    rw [retV_eq ok h0, outS_eq h1]
    rfl
  · cases h
def laws_markText_dec (res : Res T) : Option ByteArray := match res.rets, res.outs with
  | [a0], [] => (retV (T := T) 9 a0).bind fun r0 => some (r0)
  | _, _ => none
def laws_markText_enc (y : ByteArray) : Res T := ⟨[vR T 9 y], []⟩
theorem laws_markText_de (res : Res T) (y : ByteArray) (h : laws_markText_dec res = some y) : res = laws_markText_enc y := by
  obtain ⟨rets, outs⟩ := res
  unfold laws_markText_dec at h
  dsimp only at h
  split at h
  · obtain ⟨r0, h0, h⟩ := Option.bind_eq_some_iff.1 h
    cases h
    rw [retV_eq ok h0]
    rfl
  · cases h
def laws_markFeatureS_dec (res : Res T) : Option (Int × List SFeature) := match res.rets, res.outs with
  | [a0], [b0] => (retV (T := T) 3 a0).bind fun r0 => (outS (T := T) 181 b0).bind fun r1 => some (r0, r1)
  | _, _ => none
def laws_markFeatureS_enc (y : Int × List SFeature) : Res T := ⟨[vR T 3 y.1], [.sl 181 y.2]⟩
theorem laws_markFeatureS_de (res : Res T) (y : Int × List SFeature) (h : laws_markFeatureS_dec res = some y) : res = laws_markFeatureS_enc y := by
  obtain ⟨rets, outs⟩ := res
  unfold laws_markFeatureS_dec at h
  dsimp only at h
  split at h
  · obtain ⟨r0, h0, h⟩ := Option.bind_eq_some_iff.1 h
    obtain ⟨r1, h1, h⟩ := Option.bind_eq_some_iff.1 h
    cases h
    rw [retV_eq ok h0, outS_eq h1]
    rfl
  · cases h
def laws_markChart_dec (res : Res T) : Option (Int × List Int × List SFeature) := match res.rets, res.outs with
  | [a0], [b0, b1] => (retV (T := T) 3 a0).bind fun r0 => (outS (T := T) 3 b0).bind fun r1 => (outS (T := T) 181 b1).bind fun r2 => some (r0, r1, r2)
  | _, _ => none
def laws_markChart_enc (y : Int × List Int × List SFeature) : Res T := ⟨[vR T 3 y.1], [.sl 3 y.2.1, .sl 181 y.2.2]⟩
theorem laws_markChart_de (res : Res T) (y : Int × List Int × List SFeature) (h : laws_markChart_dec res = some y) : res = laws_markChart_enc y := by
  obtain ⟨rets, outs⟩ := res
  unfold laws_markChart_dec at h
  dsimp only at h
  split at h
  · obtain ⟨r0, h0, h⟩ := Option.bind_eq_some_iff.1 h
    obtain ⟨r1, h1, h⟩ := Option.bind_eq_some_iff.1 h
    obtain ⟨r2, h2, h⟩ := Option.bind_eq_some_iff.1 h
    cases h
    rw [retV_eq ok h0, outS_eq h1, outS_eq h2]
    rfl
  · cases h
def laws_heldIntS_dec (res : Res T) : Option Int := match res.rets, res.outs with
  | [a0], [] => (retV (T := T) 3 a0).bind fun r0 => some (r0)
  | _, _ => none
def laws_heldIntS_enc (y : Int) : Res T := ⟨[vR T 3 y], []⟩
theorem laws_heldIntS_de (res : Res T) (y : Int) (h : laws_heldIntS_dec res = some y) : res = laws_heldIntS_enc y := by
  obtain ⟨rets, outs⟩ := res
  unfold laws_heldIntS_dec at h
  dsimp only at h
  split at h
  · obtain ⟨r0, h0, h⟩ := Option.bind_eq_some_iff.1 h
    cases h
    rw [retV_eq ok h0]
    rfl
  · cases h
def laws_FnExactNear6_dec (res : Res T) : Option Bool := match res.rets, res.outs with
  | [a0], [] => (retV (T := T) 4 a0).bind fun r0 => some (r0)
  | _, _ => none
def laws_FnExactNear6_enc (y : Bool) : Res T := ⟨[vR T 4 y], []⟩
theorem laws_FnExactNear6_de (res : Res T) (y : Bool) (h : laws_FnExactNear6_dec res = some y) : res = laws_FnExactNear6_enc y := by
  obtain ⟨rets, outs⟩ := res
  unfold laws_FnExactNear6_dec at h
  dsimp only at h
  split at h
  · obtain ⟨r0, h0, h⟩ := Option.bind_eq_some_iff.1 h
    cases h
    rw [retV_eq ok h0]
    rfl
  · cases h
def laws_szIntS_D (n : Nat) (r0 : List (A T)) : Option Int := ocons r0 fun a0 r1 => ocons r1 fun a1 r2 => onil r2 (obind (argV (T := T) 55 a0) fun a0 => obind (argV (T := T) 3 a1) fun left1 => laws_szIntS n a0 left1)
def laws_szIntS_ent (n : Nat) : Ent T := ⟨110, 0, [], Int, laws_szIntS_D n, laws_szIntS_enc⟩
def laws_szFeature_D (n : Nat) (r0 : List (A T)) : Option Int := ocons r0 fun a0 r1 => ocons r1 fun a1 r2 => onil r2 (obind (argV (T := T) 251 a0) fun a0 => obind (argV (T := T) 3 a1) fun left1 => laws_szFeature n a0 left1)
def laws_szFeature_ent (n : Nat) : Ent T := ⟨191, 1, [], Int, laws_szFeature_D n, laws_szFeature_enc⟩
def laws_szFeatureS_D (n : Nat) (r0 : List (A T)) : Option Int := ocons r0 fun a0 r1 => ocons r1 fun a1 r2 => onil r2 (obind (argV (T := T) 56 a0) fun a0 => obind (argV (T := T) 3 a1) fun left1 => laws_szFeatureS n a0 left1)
def laws_szFeatureS_ent (n : Nat) : Ent T := ⟨111, 2, [], Int, laws_szFeatureS_D n, laws_szFeatureS_enc⟩
def laws_szChart_D (n : Nat) (r0 : List (A T)) : Option Int := ocons r0 fun a0 r1 => ocons r1 fun a1 r2 => onil r2 (obind (argV (T := T) 58 a0) fun a0 => obind (argV (T := T) 3 a1) fun left1 => laws_szChart n a0 left1)
def laws_szChart_ent (n : Nat) : Ent T := ⟨33, 3, [], Int, laws_szChart_D n, laws_szChart_enc⟩
def laws_toIntS_D (n : Nat) (r0 : List (A T)) : Option (List Int) := ocons r0 fun a0 r1 => onil r1 (obind (argV (T := T) 55 a0) fun a0 => laws_toIntS n a0)
def laws_toIntS_ent (n : Nat) : Ent T := ⟨112, 4, [], List Int, laws_toIntS_D n, laws_toIntS_enc⟩
def laws_toFeature_D (n : Nat) (r0 : List (A T)) : Option SFeature := ocons r0 fun a0 r1 => onil r1 (obind (argV (T := T) 251 a0) fun a0 => laws_toFeature n a0)
def laws_toFeature_ent (n : Nat) : Ent T := ⟨192, 5, [], SFeature, laws_toFeature_D n, laws_toFeature_enc⟩
def laws_toFeatureS_D (n : Nat) (r0 : List (A T)) : Option (List SFeature) := ocons r0 fun a0 r1 => onil r1 (obind (argV (T := T) 56 a0) fun a0 => laws_toFeatureS n a0)
def laws_toFeatureS_ent (n : Nat) : Ent T := ⟨113, 6, [], List SFeature, laws_toFeatureS_D n, laws_toFeatureS_enc⟩
def laws_toChart_D (n : Nat) (r0 : List (A T)) : Option SChart := ocons r0 fun a0 r1 => onil r1 (obind (argV (T := T) 58 a0) fun a0 => laws_toChart n a0)
def laws_toChart_ent (n : Nat) : Ent T := ⟨35, 7, [], SChart, laws_toChart_D n, laws_toChart_enc⟩
def spec_l1In_D (n : Nat) (r0 : List (A T)) : Option Bool := ocons r0 fun a0 r1 => ocons r1 fun a1 r2 => ocons r2 fun a2 r3 => onil r3 (obind (argV (T := T) 3 a0) fun x0 => obind (argV (T := T) 3 a1) fun a1 => obind (argV (T := T) 3 a2) fun b2 => spec_l1In n x0 a1 b2)
def spec_l1In_ent (n : Nat) : Ent T := ⟨100, 8, [], Bool, spec_l1In_D n, spec_l1In_enc⟩
def spec_l6Depth_D (n : Nat) (r0 : List (A T)) : Option Bool := ocons r0 fun a0 r1 => onil r1 (obind (argV (T := T) 3 a0) fun d0 => spec_l6Depth n d0)
def spec_l6Depth_ent (n : Nat) : Ent T := ⟨117, 9, [], Bool, spec_l6Depth_D n, spec_l6Depth_enc⟩
def spec_l6Place_D (n : Nat) (r0 : List (A T)) : Option Bool := ocons r0 fun a0 r1 => ocons r1 fun a1 r2 => ocons r2 fun a2 r3 => onil r3 (obind (argV (T := T) 63 a0) fun c0 => obind (argV (T := T) 3 a1) fun x1 => obind (argV (T := T) 3 a2) fun y2 => spec_l6Place n c0 x1 y2)
def spec_l6Place_ent (n : Nat) : Ent T := ⟨127, 10, [], Bool, spec_l6Place_D n, spec_l6Place_enc⟩
def spec_l6Feature_D (n : Nat) (r0 : List (A T)) : Option Bool := ocons r0 fun a0 r1 => ocons r1 fun a1 r2 => onil r2 (obind (argV (T := T) 63 a0) fun c0 => obind (argV (T := T) 181 a1) fun f1 => spec_l6Feature n c0 f1)
def spec_l6Feature_ent (n : Nat) : Ent T := ⟨118, 11, [], Bool, spec_l6Feature_D n, spec_l6Feature_enc⟩
def spec_ChartOk_D (n : Nat) (r0 : List (A T)) : Option Bool := ocons r0 fun a0 r1 => onil r1 (obind (argV (T := T) 63 a0) fun c0 => spec_ChartOk n c0)
def spec_ChartOk_ent (n : Nat) : Ent T := ⟨43, 12, [], Bool, spec_ChartOk_D n, spec_ChartOk_enc⟩
def spec_l3Size_D (n : Nat) (r0 : List (A T)) : Option Int := ocons r0 fun a0 r1 => onil r1 (obind (argV (T := T) 3 a0) fun x0 => spec_l3Size n x0)
def spec_l3Size_ent (n : Nat) : Ent T := ⟨128, 13, [], Int, spec_l3Size_D n, spec_l3Size_enc⟩
def spec_Near6_D (n : Nat) (r0 : List (A T)) : Option (List Int) := ocons r0 fun a0 r1 => ocons r1 fun a1 r2 => ocons r2 fun a2 r3 => ocons r3 fun a3 r4 => onil r4 (obind (argV (T := T) 63 a0) fun c0 => obind (argV (T := T) 3 a1) fun x1 => obind (argV (T := T) 3 a2) fun y2 => obind (argV (T := T) 3 a3) fun far3 => spec_Near6 n c0 x1 y2 far3)
def spec_Near6_ent (n : Nat) : Ent T := ⟨48, 14, [], List Int, spec_Near6_D n, spec_Near6_enc⟩
def impl_in_D (n : Nat) (r0 : List (A T)) : Option Bool := ocons r0 fun a0 r1 => ocons r1 fun a1 r2 => ocons r2 fun a2 r3 => onil r3 (obind (argV (T := T) 3 a0) fun n0 => obind (argV (T := T) 3 a1) fun least1 => obind (argV (T := T) 3 a2) fun most2 => impl_in n n0 least1 most2)
def impl_in_ent (n : Nat) : Ent T := ⟨119, 15, [], Bool, impl_in_D n, impl_in_enc⟩
def impl_all_1_D (n : Nat) (r0 : List (A T)) : Option Bool := ocons r0 fun a0 r1 => ocons r1 fun a1 r2 => ocons r2 fun a2 r3 => onil r3 (obind (argV (T := T) 3 a0) fun n0 => obind (argP (T := T) 3 a1) fun a1 => obind (argP (T := T) 3 a2) fun a2 => impl_all_1 n n0 a1 a2)
def impl_all_1_ent (n : Nat) : Ent T := ⟨196, 16, [], Bool, impl_all_1_D n, impl_all_1_enc⟩
def slices_IndexFunc_int_int__impl_all_1_D (n : Nat) (ar : List (A T)) : Option Int := match ar with
  | [a0, .fn _ [k1_0, k1_1]] => obind (argV (T := T) 55 a0) fun s0 => obind (argP (T := T) 3 k1_0) fun f1c0 => obind (argP (T := T) 3 k1_1) fun f1c1 => slices_IndexFunc_int_int__impl_all_1 n s0 f1c0 f1c1
  | _ => none
def slices_IndexFunc_int_int__impl_all_1_ent (n : Nat) : Ent T := ⟨222, 17, [196], Int, slices_IndexFunc_int_int__impl_all_1_D n, slices_IndexFunc_int_int__impl_all_1_enc⟩
def slices_ContainsFunc_int_int__impl_all_1_D (n : Nat) (ar : List (A T)) : Option Bool := match ar with
  | [a0, .fn _ [k1_0, k1_1]] => obind (argV (T := T) 55 a0) fun s0 => obind (argP (T := T) 3 k1_0) fun f1c0 => obind (argP (T := T) 3 k1_1) fun f1c1 => slices_ContainsFunc_int_int__impl_all_1 n s0 f1c0 f1c1
  | _ => none
def slices_ContainsFunc_int_int__impl_all_1_ent (n : Nat) : Ent T := ⟨158, 18, [196], Bool, slices_ContainsFunc_int_int__impl_all_1_D n, slices_ContainsFunc_int_int__impl_all_1_enc⟩
def impl_all_D (n : Nat) (r0 : List (A T)) : Option Bool := ocons r0 fun a0 r1 => ocons r1 fun a1 r2 => ocons r2 fun a2 r3 => onil r3 (obind (argV (T := T) 55 a0) fun l0 => obind (argV (T := T) 3 a1) fun least1 => obind (argV (T := T) 3 a2) fun most2 => impl_all n l0 least1 most2)
def impl_all_ent (n : Nat) : Ent T := ⟨120, 19, [], Bool, impl_all_D n, impl_all_enc⟩
def impl_Chart_place_D (n : Nat) (r0 : List (A T)) : Option Bool := ocons r0 fun a0 r1 => ocons r1 fun a1 r2 => ocons r2 fun a2 r3 => onil r3 (obind (argV (T := T) 63 a0) fun c0 => obind (argV (T := T) 3 a1) fun x1 => obind (argV (T := T) 3 a2) fun y2 => impl_Chart_place n c0 x1 y2)
def impl_Chart_place_ent (n : Nat) : Ent T := ⟨122, 20, [], Bool, impl_Chart_place_D n, impl_Chart_place_enc⟩
def impl_Chart_featureOk_D (n : Nat) (r0 : List (A T)) : Option Bool := ocons r0 fun a0 r1 => ocons r1 fun a1 r2 => onil r2 (obind (argV (T := T) 63 a0) fun c0 => obind (argV (T := T) 181 a1) fun f1 => impl_Chart_featureOk n c0 f1)
def impl_Chart_featureOk_ent (n : Nat) : Ent T := ⟨121, 21, [], Bool, impl_Chart_featureOk_D n, impl_Chart_featureOk_enc⟩
def impl_ChartOk_D (n : Nat) (r0 : List (A T)) : Option Bool := ocons r0 fun a0 r1 => onil r1 (obind (argV (T := T) 63 a0) fun c0 => impl_ChartOk n c0)
def impl_ChartOk_ent (n : Nat) : Ent T := ⟨44, 22, [], Bool, impl_ChartOk_D n, impl_ChartOk_enc⟩
def impl_size_D (n : Nat) (r0 : List (A T)) : Option Int := ocons r0 fun a0 r1 => onil r1 (obind (argV (T := T) 3 a0) fun n0 => impl_size n n0)
def impl_size_ent (n : Nat) : Ent T := ⟨123, 23, [], Int, impl_size_D n, impl_size_enc⟩
def cmp_isNaN_int_D (n : Nat) (r0 : List (A T)) : Option Bool := ocons r0 fun a0 r1 => onil r1 (obind (argV (T := T) 3 a0) fun x0 => cmp_isNaN_int n x0)
def cmp_isNaN_int_ent (n : Nat) : Ent T := ⟨248, 24, [], Bool, cmp_isNaN_int_D n, cmp_isNaN_int_enc⟩
def cmp_Compare_int_D (n : Nat) (r0 : List (A T)) : Option Int := ocons r0 fun a0 r1 => ocons r1 fun a1 r2 => onil r2 (obind (argV (T := T) 3 a0) fun x0 => obind (argV (T := T) 3 a1) fun y1 => cmp_Compare_int n x0 y1)
def cmp_Compare_int_ent (n : Nat) : Ent T := ⟨199, 25, [], Int, cmp_Compare_int_D n, cmp_Compare_int_enc⟩
def slices_Compare_int_int_D (n : Nat) (r0 : List (A T)) : Option Int := ocons r0 fun a0 r1 => ocons r1 fun a1 r2 => onil r2 (obind (argV (T := T) 55 a0) fun s10 => obind (argV (T := T) 55 a1) fun s21 => slices_Compare_int_int n s10 s21)
def slices_Compare_int_int_ent (n : Nat) : Ent T := ⟨126, 26, [], Int, slices_Compare_int_int_D n, slices_Compare_int_int_enc⟩
def impl_Near6_1_D (n : Nat) (r0 : List (A T)) : Option Int := ocons r0 fun a0 r1 => ocons r1 fun a1 r2 => onil r2 (obind (argV (T := T) 186 a0) fun a0 => obind (argV (T := T) 186 a1) fun b1 => impl_Near6_1 n a0 b1)
def impl_Near6_1_ent (n : Nat) : Ent T := ⟨125, 27, [], Int, impl_Near6_1_D n, impl_Near6_1_enc⟩
def slices_SortFunc_2_int_2_int__impl_Near6_1_D (n : Nat) (ar : List (A T)) : Option (List SArr2_Int) := match ar with
  | [a0, .fn _ []] => obind (argV (T := T) 185 a0) fun l0 => slices_SortFunc_2_int_2_int__impl_Near6_1 n l0
  | _ => none
def slices_SortFunc_2_int_2_int__impl_Near6_1_ent (n : Nat) : Ent T := ⟨124, 28, [125], List SArr2_Int, slices_SortFunc_2_int_2_int__impl_Near6_1_D n, slices_SortFunc_2_int_2_int__impl_Near6_1_enc⟩
def impl_own_int_D (n : Nat) (r0 : List (A T)) : Option (List Int) := ocons r0 fun a0 r1 => onil r1 (obind (argV (T := T) 55 a0) fun l0 => impl_own_int n l0)
def impl_own_int_ent (n : Nat) : Ent T := ⟨104, 29, [], List Int, impl_own_int_D n, impl_own_int_enc⟩
def impl_Near6_D (n : Nat) (r0 : List (A T)) : Option (List Int) := ocons r0 fun a0 r1 => ocons r1 fun a1 r2 => ocons r2 fun a2 r3 => ocons r3 fun a3 r4 => onil r4 (obind (argV (T := T) 63 a0) fun c0 => obind (argV (T := T) 3 a1) fun x1 => obind (argV (T := T) 3 a2) fun y2 => obind (argV (T := T) 3 a3) fun far3 => impl_Near6 n c0 x1 y2 far3)
def impl_Near6_ent (n : Nat) : Ent T := ⟨47, 30, [], List Int, impl_Near6_D n, impl_Near6_enc⟩
def laws_eqIntS_D (n : Nat) (r0 : List (A T)) : Option Bool := ocons r0 fun a0 r1 => ocons r1 fun a1 r2 => onil r2 (obind (argV (T := T) 55 a0) fun a0 => obind (argV (T := T) 55 a1) fun b1 => laws_eqIntS n a0 b1)
def laws_eqIntS_ent (n : Nat) : Ent T := ⟨37, 31, [], Bool, laws_eqIntS_D n, laws_eqIntS_enc⟩
def laws_eqFeature_D (n : Nat) (r0 : List (A T)) : Option Bool := ocons r0 fun a0 r1 => ocons r1 fun a1 r2 => onil r2 (obind (argV (T := T) 181 a0) fun a0 => obind (argV (T := T) 181 a1) fun b1 => laws_eqFeature n a0 b1)
def laws_eqFeature_ent (n : Nat) : Ent T := ⟨193, 32, [], Bool, laws_eqFeature_D n, laws_eqFeature_enc⟩
def laws_eqFeatureS_D (n : Nat) (r0 : List (A T)) : Option Bool := ocons r0 fun a0 r1 => ocons r1 fun a1 r2 => onil r2 (obind (argV (T := T) 61 a0) fun a0 => obind (argV (T := T) 61 a1) fun b1 => laws_eqFeatureS n a0 b1)
def laws_eqFeatureS_ent (n : Nat) : Ent T := ⟨114, 33, [], Bool, laws_eqFeatureS_D n, laws_eqFeatureS_enc⟩
def laws_eqChart_D (n : Nat) (r0 : List (A T)) : Option Bool := ocons r0 fun a0 r1 => ocons r1 fun a1 r2 => onil r2 (obind (argV (T := T) 63 a0) fun a0 => obind (argV (T := T) 63 a1) fun b1 => laws_eqChart n a0 b1)
def laws_eqChart_ent (n : Nat) : Ent T := ⟨38, 34, [], Bool, laws_eqChart_D n, laws_eqChart_enc⟩
def laws_markIntS_D (n : Nat) (r0 : List (A T)) : Option (Int × List Int) := ocons r0 fun a0 r1 => ocons r1 fun a1 r2 => onil r2 (obind (argV (T := T) 55 a0) fun a0 => obind (argV (T := T) 3 a1) fun k1 => laws_markIntS n a0 k1)
def laws_markIntS_ent (n : Nat) : Ent T := ⟨40, 35, [], Int × List Int, laws_markIntS_D n, laws_markIntS_enc⟩
def laws_markText_D (n : Nat) (r0 : List (A T)) : Option ByteArray := ocons r0 fun a0 r1 => onil r1 (obind (argV (T := T) 3 a0) fun k0 => laws_markText n k0)
def laws_markText_ent (n : Nat) : Ent T := ⟨194, 36, [], ByteArray, laws_markText_D n, laws_markText_enc⟩
def laws_markFeatureS_D (n : Nat) (r0 : List (A T)) : Option (Int × List SFeature) := ocons r0 fun a0 r1 => ocons r1 fun a1 r2 => onil r2 (obind (argV (T := T) 61 a0) fun a0 => obind (argV (T := T) 3 a1) fun k1 => laws_markFeatureS n a0 k1)
def laws_markFeatureS_ent (n : Nat) : Ent T := ⟨115, 37, [], Int × List SFeature, laws_markFeatureS_D n, laws_markFeatureS_enc⟩
def laws_markChart_D (n : Nat) (r0 : List (A T)) : Option (Int × List Int × List SFeature) := ocons r0 fun a0 r1 => ocons r1 fun a1 r2 => onil r2 (obind (argV (T := T) 63 a0) fun a0 => obind (argV (T := T) 3 a1) fun k1 => laws_markChart n a0 k1)
def laws_markChart_ent (n : Nat) : Ent T := ⟨39, 38, [], Int × List Int × List SFeature, laws_markChart_D n, laws_markChart_enc⟩
def laws_heldIntS_D (n : Nat) (r0 : List (A T)) : Option Int := ocons r0 fun a0 r1 => ocons r1 fun a1 r2 => onil r2 (obind (argV (T := T) 55 a0) fun a0 => obind (argV (T := T) 3 a1) fun k1 => laws_heldIntS n a0 k1)
def laws_heldIntS_ent (n : Nat) : Ent T := ⟨41, 39, [], Int, laws_heldIntS_D n, laws_heldIntS_enc⟩
def laws_FnExactNear6_D (n : Nat) (r0 : List (A T)) : Option Bool := ocons r0 fun a0 r1 => ocons r1 fun a1 r2 => ocons r2 fun a2 r3 => ocons r3 fun a3 r4 => onil r4 (obind (argV (T := T) 58 a0) fun aC0 => obind (argV (T := T) 3 a1) fun aX1 => obind (argV (T := T) 3 a2) fun aY2 => obind (argV (T := T) 3 a3) fun aFar3 => laws_FnExactNear6 n aC0 aX1 aY2 aFar3)
def laws_FnExactNear6_ent (n : Nat) : Ent T := ⟨7, 40, [], Bool, laws_FnExactNear6_D n, laws_FnExactNear6_enc⟩
def ents (n : Nat) : List (Ent T) := [laws_szIntS_ent n, laws_szFeature_ent n, laws_szFeatureS_ent n, laws_szChart_ent n, laws_toIntS_ent n, laws_toFeature_ent n, laws_toFeatureS_ent n, laws_toChart_ent n, spec_l1In_ent n, spec_l6Depth_ent n, spec_l6Place_ent n, spec_l6Feature_ent n, spec_ChartOk_ent n, spec_l3Size_ent n, spec_Near6_ent n, impl_in_ent n, impl_all_1_ent n, slices_IndexFunc_int_int__impl_all_1_ent n, slices_ContainsFunc_int_int__impl_all_1_ent n, impl_all_ent n, impl_Chart_place_ent n, impl_Chart_featureOk_ent n, impl_ChartOk_ent n, impl_size_ent n, cmp_isNaN_int_ent n, cmp_Compare_int_ent n, slices_Compare_int_int_ent n, impl_Near6_1_ent n, slices_SortFunc_2_int_2_int__impl_Near6_1_ent n, impl_own_int_ent n, impl_Near6_ent n, laws_eqIntS_ent n, laws_eqFeature_ent n, laws_eqFeatureS_ent n, laws_eqChart_ent n, laws_markIntS_ent n, laws_markText_ent n, laws_markFeatureS_ent n, laws_markChart_ent n, laws_heldIntS_ent n, laws_FnExactNear6_ent n]
abbrev Phi (n i : Nat) {R : Type} (f : Nat) (ar : List (A T)) (K : Res T → Option R) : Option R := PhiE (ents n) i f ar K
theorem mixed : Try.prog.follows .mixedOrders = true := by kernel_rfl
noncomputable def laws_szIntS_code : Code := match Try.f110.body with | some c => c | none => .skip
def laws_szIntS_ann : Ann := fun id => none
def laws_szIntS_Ls (n : Nat) : Nat → Option (LSpec T) := fun id => none
theorem laws_szIntS_tie (n : Nat) (a0 : List Int) (left1 : Int) : evF (T := T) (Phi n 0) (laws_szIntS_Ls n) laws_szIntS_ann n Try.f110 (sg 110) [vA T 55 a0, vA T 3 left1] laws_szIntS_dec = laws_szIntS n a0 left1 := by kernel_rfl
theorem laws_szIntS_lo (n : Nat) : LoopsOk (T := T) (Phi n 0) (laws_szIntS_Ls n) laws_szIntS_ann n laws_szIntS_code := loopsOk_all (cs := []) (by kernel_rfl) trivial
theorem laws_szIntS_ok (n : Nat) : EntOk Try.prog (ents n) (laws_szIntS_ent n) := by
  intro hs ar y hg h
  replace h : laws_szIntS_D n ar = some y := h
  unfold laws_szIntS_D at h
  replace h := ocons_some h
  obtain ⟨a0, r0, rfl, h⟩ := h
  replace h := ocons_some h
  obtain ⟨a1, r1, rfl, h⟩ := h
  replace h := onil_some h
  obtain ⟨rfl, h⟩ := h
  obtain ⟨a0, qh0, h⟩ := obind_some h
  obtain ⟨left1, qh1, h⟩ := obind_some h
  rw [argV_eq ok qh0, argV_eq ok qh1]
  exact call_of (phiE_nat _ _) hs ok mixed Try.func110 (c := laws_szIntS_code) (by kernel_rfl) (laws_szIntS_lo n) (by kernel_rfl) (by kernel_rfl) (by kernel_rfl) laws_szIntS_de ((laws_szIntS_tie n a0 left1).trans h)
noncomputable def laws_szFeature_code : Code := match Try.f191.body with | some c => c | none => .skip
def laws_szFeature_ann : Ann := fun id => none
def laws_szFeature_Ls (n : Nat) : Nat → Option (LSpec T) := fun id => none
theorem laws_szFeature_tie (n : Nat) (a0 : SFeature) (left1 : Int) : evF (T := T) (Phi n 1) (laws_szFeature_Ls n) laws_szFeature_ann n Try.f191 (sg 191) [vA T 251 a0, vA T 3 left1] laws_szFeature_dec = laws_szFeature n a0 left1 := by kernel_rfl
theorem laws_szFeature_lo (n : Nat) : LoopsOk (T := T) (Phi n 1) (laws_szFeature_Ls n) laws_szFeature_ann n laws_szFeature_code := loopsOk_all (cs := []) (by kernel_rfl) trivial
theorem laws_szFeature_ok (n : Nat) : EntOk Try.prog (ents n) (laws_szFeature_ent n) := by
  intro hs ar y hg h
  replace h : laws_szFeature_D n ar = some y := h
  unfold laws_szFeature_D at h
  replace h := ocons_some h
  obtain ⟨a0, r0, rfl, h⟩ := h
  replace h := ocons_some h
  obtain ⟨a1, r1, rfl, h⟩ := h
  replace h := onil_some h
  obtain ⟨rfl, h⟩ := h
  obtain ⟨a0, qh0, h⟩ := obind_some h
  obtain ⟨left1, qh1, h⟩ := obind_some h
  rw [argV_eq ok qh0, argV_eq ok qh1]
  exact call_of (phiE_nat _ _) hs ok mixed Try.func191 (c := laws_szFeature_code) (by kernel_rfl) (laws_szFeature_lo n) (by kernel_rfl) (by kernel_rfl) (by kernel_rfl) laws_szFeature_de ((laws_szFeature_tie n a0 left1).trans h)
noncomputable def laws_szFeatureS_code : Code := match Try.f111.body with | some c => c | none => .skip
def laws_szFeatureS_5_sv : List Sv := [.one (.arr 251), .one (.int .i64), .one (.int .i64)]
def laws_szFeatureS_5_so : List So := []
def laws_szFeatureS_5_emb (c : List SFeature) (x : Int × Int) : EVs T laws_szFeatureS_5_sv × EOs T laws_szFeatureS_5_so := ((c, x.1, x.2, ()), ())
def laws_szFeatureS_5_prj (y : EVs T laws_szFeatureS_5_sv × EOs T laws_szFeatureS_5_so) : List SFeature × (Int × Int) := ((y.1.1), (y.1.2.1, y.1.2.2.1))
def laws_szFeatureS_5_b (n : Nat) {R : Type} (K : Ex → Sm.St T → Option R) (c : List SFeature) (x : Int × Int) (J : (Int × Int) → Option R) : Option R :=
  laws_szFeatureS_L5 n (fun (y0 : Int) => K (.exit 0) (stOf (T := T) [1] [] [.one (.int .i64)] [] (y0, ()) ())) (fun (y0 : Int) => K .ret (stOf (T := T) [4] [] [.one (.int .i64)] [] (y0, ()) ())) (fun z0 z1 => J (z0, z1)) c x.1 x.2
def laws_szFeatureS_5_sp (n : Nat) : LSpec T := mkSpec T ⟨[], [0, 1, 5], []⟩ laws_szFeatureS_5_sv laws_szFeatureS_5_so (List SFeature) (Int × Int) laws_szFeatureS_5_emb laws_szFeatureS_5_prj (laws_szFeatureS_5_b n)
noncomputable def laws_szFeatureS_5_c : Code := ((loopCodes laws_szFeatureS_code)[0]?).getD .skip
def laws_szFeatureS_ann : Ann := fun id => bif Nat.beq id 3000005 then some ⟨[], [1], []⟩ else bif Nat.beq id 2000005 then some ⟨[], [4], []⟩ else none
def laws_szFeatureS_Ls (n : Nat) : Nat → Option (LSpec T) := fun id => bif Nat.beq id 5 then some (laws_szFeatureS_5_sp n) else none
theorem laws_szFeatureS_5_le (n : Nat) : LoopEq (T := T) (Phi n 2) (laws_szFeatureS_Ls n) laws_szFeatureS_ann n laws_szFeatureS_5_c (laws_szFeatureS_5_sp n) := ⟨mkSpec_dec (fun y => rfl), fun c x => by kernel_rfl, fun K J c x => by kernel_rfl⟩
theorem laws_szFeatureS_tie (n : Nat) (a0 : List SFeature) (left1 : Int) : evF (T := T) (Phi n 2) (laws_szFeatureS_Ls n) laws_szFeatureS_ann n Try.f111 (sg 111) [vA T 56 a0, vA T 3 left1] laws_szFeatureS_dec = laws_szFeatureS n a0 left1 := by kernel_rfl
theorem laws_szFeatureS_lo (n : Nat) : LoopsOk (T := T) (Phi n 2) (laws_szFeatureS_Ls n) laws_szFeatureS_ann n laws_szFeatureS_code := loopsOk_all (cs := [laws_szFeatureS_5_c]) (by kernel_rfl) ⟨⟨_, by kernel_rfl, laws_szFeatureS_5_le n⟩, trivial⟩
theorem laws_szFeatureS_ok (n : Nat) : EntOk Try.prog (ents n) (laws_szFeatureS_ent n) := by
  intro hs ar y hg h
  replace h : laws_szFeatureS_D n ar = some y := h
  unfold laws_szFeatureS_D at h
  replace h := ocons_some h
  obtain ⟨a0, r0, rfl, h⟩ := h
  replace h := ocons_some h
  obtain ⟨a1, r1, rfl, h⟩ := h
  replace h := onil_some h
  obtain ⟨rfl, h⟩ := h
  obtain ⟨a0, qh0, h⟩ := obind_some h
  obtain ⟨left1, qh1, h⟩ := obind_some h
  rw [argV_eq ok qh0, argV_eq ok qh1]
  exact call_of (phiE_nat _ _) hs ok mixed Try.func111 (c := laws_szFeatureS_code) (by kernel_rfl) (laws_szFeatureS_lo n) (by kernel_rfl) (by kernel_rfl) (by kernel_rfl) laws_szFeatureS_de ((laws_szFeatureS_tie n a0 left1).trans h)
noncomputable def laws_szChart_code : Code := match Try.f33.body with | some c => c | none => .skip
def laws_szChart_ann : Ann := fun id => none
def laws_szChart_Ls (n : Nat) : Nat → Option (LSpec T) := fun id => none
theorem laws_szChart_tie (n : Nat) (a0 : SChart) (left1 : Int) : evF (T := T) (Phi n 3) (laws_szChart_Ls n) laws_szChart_ann n Try.f33 (sg 33) [vA T 58 a0, vA T 3 left1] laws_szChart_dec = laws_szChart n a0 left1 := by kernel_rfl
theorem laws_szChart_lo (n : Nat) : LoopsOk (T := T) (Phi n 3) (laws_szChart_Ls n) laws_szChart_ann n laws_szChart_code := loopsOk_all (cs := []) (by kernel_rfl) trivial
theorem laws_szChart_ok (n : Nat) : EntOk Try.prog (ents n) (laws_szChart_ent n) := by
  intro hs ar y hg h
  replace h : laws_szChart_D n ar = some y := h
  unfold laws_szChart_D at h
  replace h := ocons_some h
  obtain ⟨a0, r0, rfl, h⟩ := h
  replace h := ocons_some h
  obtain ⟨a1, r1, rfl, h⟩ := h
  replace h := onil_some h
  obtain ⟨rfl, h⟩ := h
  obtain ⟨a0, qh0, h⟩ := obind_some h
  obtain ⟨left1, qh1, h⟩ := obind_some h
  rw [argV_eq ok qh0, argV_eq ok qh1]
  exact call_of (phiE_nat _ _) hs ok mixed Try.func33 (c := laws_szChart_code) (by kernel_rfl) (laws_szChart_lo n) (by kernel_rfl) (by kernel_rfl) (by kernel_rfl) laws_szChart_de ((laws_szChart_tie n a0 left1).trans h)
noncomputable def laws_toIntS_code : Code := match Try.f112.body with | some c => c | none => .skip
def laws_toIntS_3_sv : List Sv := [.one (.arr 3), .one (.own 3000000 3 false), .one (.int .i64)]
def laws_toIntS_3_so : List So := [.arr 3 false]
def laws_toIntS_3_emb (c : List Int) (x : Int × List Int) : EVs T laws_toIntS_3_sv × EOs T laws_toIntS_3_so := ((c, (), x.1, ()), (x.2, ()))
def laws_toIntS_3_prj (y : EVs T laws_toIntS_3_sv × EOs T laws_toIntS_3_so) : List Int × (Int × List Int) := ((y.1.1), (y.1.2.2.1, y.2.1))
def laws_toIntS_3_b (n : Nat) {R : Type} (K : Ex → Sm.St T → Option R) (c : List Int) (x : Int × List Int) (J : (Int × List Int) → Option R) : Option R :=
  laws_toIntS_L3 n (fun (y0 : List Int) => K (.exit 0) (stOf (T := T) [3] [3000000] [.one (.own 3000000 3 false)] [.arr 3 false] ((), ()) (y0, ()))) (fun z0 z1 => J (z0, z1)) c x.1 x.2
def laws_toIntS_3_sp (n : Nat) : LSpec T := mkSpec T ⟨[((.reg 3), 3000000, 3)], [0, 3, 4], [3000000]⟩ laws_toIntS_3_sv laws_toIntS_3_so (List Int) (Int × List Int) laws_toIntS_3_emb laws_toIntS_3_prj (laws_toIntS_3_b n)
noncomputable def laws_toIntS_3_c : Code := ((loopCodes laws_toIntS_code)[0]?).getD .skip
def laws_toIntS_ann : Ann := fun id => bif Nat.beq id 3000003 then some ⟨[((.reg 3), 3000000, 3)], [3], [3000000]⟩ else none
def laws_toIntS_Ls (n : Nat) : Nat → Option (LSpec T) := fun id => bif Nat.beq id 3 then some (laws_toIntS_3_sp n) else none
theorem laws_toIntS_3_le (n : Nat) : LoopEq (T := T) (Phi n 4) (laws_toIntS_Ls n) laws_toIntS_ann n laws_toIntS_3_c (laws_toIntS_3_sp n) := ⟨mkSpec_dec (fun y => rfl), fun c x => by kernel_rfl, fun K J c x => by kernel_rfl⟩
theorem laws_toIntS_tie (n : Nat) (a0 : List Int) : evF (T := T) (Phi n 4) (laws_toIntS_Ls n) laws_toIntS_ann n Try.f112 (sg 112) [vA T 55 a0] laws_toIntS_dec = laws_toIntS n a0 := by kernel_rfl
theorem laws_toIntS_lo (n : Nat) : LoopsOk (T := T) (Phi n 4) (laws_toIntS_Ls n) laws_toIntS_ann n laws_toIntS_code := loopsOk_all (cs := [laws_toIntS_3_c]) (by kernel_rfl) ⟨⟨_, by kernel_rfl, laws_toIntS_3_le n⟩, trivial⟩
theorem laws_toIntS_ok (n : Nat) : EntOk Try.prog (ents n) (laws_toIntS_ent n) := by
  intro hs ar y hg h
  replace h : laws_toIntS_D n ar = some y := h
  unfold laws_toIntS_D at h
  replace h := ocons_some h
  obtain ⟨a0, r0, rfl, h⟩ := h
  replace h := onil_some h
  obtain ⟨rfl, h⟩ := h
  obtain ⟨a0, qh0, h⟩ := obind_some h
  rw [argV_eq ok qh0]
  exact call_of (phiE_nat _ _) hs ok mixed Try.func112 (c := laws_toIntS_code) (by kernel_rfl) (laws_toIntS_lo n) (by kernel_rfl) (by kernel_rfl) (by kernel_rfl) laws_toIntS_de ((laws_toIntS_tie n a0).trans h)
noncomputable def laws_toFeature_code : Code := match Try.f192.body with | some c => c | none => .skip
def laws_toFeature_ann : Ann := fun id => none
def laws_toFeature_Ls (n : Nat) : Nat → Option (LSpec T) := fun id => none
theorem laws_toFeature_tie (n : Nat) (a0 : SFeature) : evF (T := T) (Phi n 5) (laws_toFeature_Ls n) laws_toFeature_ann n Try.f192 (sg 192) [vA T 251 a0] laws_toFeature_dec = laws_toFeature n a0 := by kernel_rfl
theorem laws_toFeature_lo (n : Nat) : LoopsOk (T := T) (Phi n 5) (laws_toFeature_Ls n) laws_toFeature_ann n laws_toFeature_code := loopsOk_all (cs := []) (by kernel_rfl) trivial
theorem laws_toFeature_ok (n : Nat) : EntOk Try.prog (ents n) (laws_toFeature_ent n) := by
  intro hs ar y hg h
  replace h : laws_toFeature_D n ar = some y := h
  unfold laws_toFeature_D at h
  replace h := ocons_some h
  obtain ⟨a0, r0, rfl, h⟩ := h
  replace h := onil_some h
  obtain ⟨rfl, h⟩ := h
  obtain ⟨a0, qh0, h⟩ := obind_some h
  rw [argV_eq ok qh0]
  exact call_of (phiE_nat _ _) hs ok mixed Try.func192 (c := laws_toFeature_code) (by kernel_rfl) (laws_toFeature_lo n) (by kernel_rfl) (by kernel_rfl) (by kernel_rfl) laws_toFeature_de ((laws_toFeature_tie n a0).trans h)
noncomputable def laws_toFeatureS_code : Code := match Try.f113.body with | some c => c | none => .skip
def laws_toFeatureS_3_sv : List Sv := [.one (.arr 251), .one (.own 3000000 181 false), .one (.int .i64)]
def laws_toFeatureS_3_so : List So := [.arr 181 false]
def laws_toFeatureS_3_emb (c : List SFeature) (x : Int × List SFeature) : EVs T laws_toFeatureS_3_sv × EOs T laws_toFeatureS_3_so := ((c, (), x.1, ()), (x.2, ()))
def laws_toFeatureS_3_prj (y : EVs T laws_toFeatureS_3_sv × EOs T laws_toFeatureS_3_so) : List SFeature × (Int × List SFeature) := ((y.1.1), (y.1.2.2.1, y.2.1))
def laws_toFeatureS_3_b (n : Nat) {R : Type} (K : Ex → Sm.St T → Option R) (c : List SFeature) (x : Int × List SFeature) (J : (Int × List SFeature) → Option R) : Option R :=
  laws_toFeatureS_L3 n (fun (y0 : List SFeature) => K (.exit 0) (stOf (T := T) [3] [3000000] [.one (.own 3000000 181 false)] [.arr 181 false] ((), ()) (y0, ()))) (fun z0 z1 => J (z0, z1)) c x.1 x.2
def laws_toFeatureS_3_sp (n : Nat) : LSpec T := mkSpec T ⟨[((.reg 3), 3000000, 181)], [0, 3, 4], [3000000]⟩ laws_toFeatureS_3_sv laws_toFeatureS_3_so (List SFeature) (Int × List SFeature) laws_toFeatureS_3_emb laws_toFeatureS_3_prj (laws_toFeatureS_3_b n)
noncomputable def laws_toFeatureS_3_c : Code := ((loopCodes laws_toFeatureS_code)[0]?).getD .skip
def laws_toFeatureS_ann : Ann := fun id => bif Nat.beq id 3000003 then some ⟨[((.reg 3), 3000000, 181)], [3], [3000000]⟩ else none
def laws_toFeatureS_Ls (n : Nat) : Nat → Option (LSpec T) := fun id => bif Nat.beq id 3 then some (laws_toFeatureS_3_sp n) else none
theorem laws_toFeatureS_3_le (n : Nat) : LoopEq (T := T) (Phi n 6) (laws_toFeatureS_Ls n) laws_toFeatureS_ann n laws_toFeatureS_3_c (laws_toFeatureS_3_sp n) := ⟨mkSpec_dec (fun y => rfl), fun c x => by kernel_rfl, fun K J c x => by kernel_rfl⟩
theorem laws_toFeatureS_tie (n : Nat) (a0 : List SFeature) : evF (T := T) (Phi n 6) (laws_toFeatureS_Ls n) laws_toFeatureS_ann n Try.f113 (sg 113) [vA T 56 a0] laws_toFeatureS_dec = laws_toFeatureS n a0 := by kernel_rfl
theorem laws_toFeatureS_lo (n : Nat) : LoopsOk (T := T) (Phi n 6) (laws_toFeatureS_Ls n) laws_toFeatureS_ann n laws_toFeatureS_code := loopsOk_all (cs := [laws_toFeatureS_3_c]) (by kernel_rfl) ⟨⟨_, by kernel_rfl, laws_toFeatureS_3_le n⟩, trivial⟩
theorem laws_toFeatureS_ok (n : Nat) : EntOk Try.prog (ents n) (laws_toFeatureS_ent n) := by
  intro hs ar y hg h
  replace h : laws_toFeatureS_D n ar = some y := h
  unfold laws_toFeatureS_D at h
  replace h := ocons_some h
  obtain ⟨a0, r0, rfl, h⟩ := h
  replace h := onil_some h
  obtain ⟨rfl, h⟩ := h
  obtain ⟨a0, qh0, h⟩ := obind_some h
  rw [argV_eq ok qh0]
  exact call_of (phiE_nat _ _) hs ok mixed Try.func113 (c := laws_toFeatureS_code) (by kernel_rfl) (laws_toFeatureS_lo n) (by kernel_rfl) (by kernel_rfl) (by kernel_rfl) laws_toFeatureS_de ((laws_toFeatureS_tie n a0).trans h)
noncomputable def laws_toChart_code : Code := match Try.f35.body with | some c => c | none => .skip
def laws_toChart_ann : Ann := fun id => none
def laws_toChart_Ls (n : Nat) : Nat → Option (LSpec T) := fun id => none
theorem laws_toChart_tie (n : Nat) (a0 : SChart) : evF (T := T) (Phi n 7) (laws_toChart_Ls n) laws_toChart_ann n Try.f35 (sg 35) [vA T 58 a0] laws_toChart_dec = laws_toChart n a0 := by kernel_rfl
theorem laws_toChart_lo (n : Nat) : LoopsOk (T := T) (Phi n 7) (laws_toChart_Ls n) laws_toChart_ann n laws_toChart_code := loopsOk_all (cs := []) (by kernel_rfl) trivial
theorem laws_toChart_ok (n : Nat) : EntOk Try.prog (ents n) (laws_toChart_ent n) := by
  intro hs ar y hg h
  replace h : laws_toChart_D n ar = some y := h
  unfold laws_toChart_D at h
  replace h := ocons_some h
  obtain ⟨a0, r0, rfl, h⟩ := h
  replace h := onil_some h
  obtain ⟨rfl, h⟩ := h
  obtain ⟨a0, qh0, h⟩ := obind_some h
  rw [argV_eq ok qh0]
  exact call_of (phiE_nat _ _) hs ok mixed Try.func35 (c := laws_toChart_code) (by kernel_rfl) (laws_toChart_lo n) (by kernel_rfl) (by kernel_rfl) (by kernel_rfl) laws_toChart_de ((laws_toChart_tie n a0).trans h)
noncomputable def spec_l1In_code : Code := match Try.f100.body with | some c => c | none => .skip
def spec_l1In_ann : Ann := fun id => none
def spec_l1In_Ls (n : Nat) : Nat → Option (LSpec T) := fun id => none
theorem spec_l1In_tie (n : Nat) (x0 : Int) (a1 : Int) (b2 : Int) : evF (T := T) (Phi n 8) (spec_l1In_Ls n) spec_l1In_ann n Try.f100 (sg 100) [vA T 3 x0, vA T 3 a1, vA T 3 b2] spec_l1In_dec = spec_l1In n x0 a1 b2 := by kernel_rfl
theorem spec_l1In_lo (n : Nat) : LoopsOk (T := T) (Phi n 8) (spec_l1In_Ls n) spec_l1In_ann n spec_l1In_code := loopsOk_all (cs := []) (by kernel_rfl) trivial
theorem spec_l1In_ok (n : Nat) : EntOk Try.prog (ents n) (spec_l1In_ent n) := by
  intro hs ar y hg h
  replace h : spec_l1In_D n ar = some y := h
  unfold spec_l1In_D at h
  replace h := ocons_some h
  obtain ⟨a0, r0, rfl, h⟩ := h
  replace h := ocons_some h
  obtain ⟨a1, r1, rfl, h⟩ := h
  replace h := ocons_some h
  obtain ⟨a2, r2, rfl, h⟩ := h
  replace h := onil_some h
  obtain ⟨rfl, h⟩ := h
  obtain ⟨x0, qh0, h⟩ := obind_some h
  obtain ⟨a1, qh1, h⟩ := obind_some h
  obtain ⟨b2, qh2, h⟩ := obind_some h
  rw [argV_eq ok qh0, argV_eq ok qh1, argV_eq ok qh2]
  exact call_of (phiE_nat _ _) hs ok mixed Try.func100 (c := spec_l1In_code) (by kernel_rfl) (spec_l1In_lo n) (by kernel_rfl) (by kernel_rfl) (by kernel_rfl) spec_l1In_de ((spec_l1In_tie n x0 a1 b2).trans h)
noncomputable def spec_l6Depth_code : Code := match Try.f117.body with | some c => c | none => .skip
def spec_l6Depth_ann : Ann := fun id => none
def spec_l6Depth_Ls (n : Nat) : Nat → Option (LSpec T) := fun id => none
theorem spec_l6Depth_tie (n : Nat) (d0 : Int) : evF (T := T) (Phi n 9) (spec_l6Depth_Ls n) spec_l6Depth_ann n Try.f117 (sg 117) [vA T 3 d0] spec_l6Depth_dec = spec_l6Depth n d0 := by kernel_rfl
theorem spec_l6Depth_lo (n : Nat) : LoopsOk (T := T) (Phi n 9) (spec_l6Depth_Ls n) spec_l6Depth_ann n spec_l6Depth_code := loopsOk_all (cs := []) (by kernel_rfl) trivial
theorem spec_l6Depth_ok (n : Nat) : EntOk Try.prog (ents n) (spec_l6Depth_ent n) := by
  intro hs ar y hg h
  replace h : spec_l6Depth_D n ar = some y := h
  unfold spec_l6Depth_D at h
  replace h := ocons_some h
  obtain ⟨a0, r0, rfl, h⟩ := h
  replace h := onil_some h
  obtain ⟨rfl, h⟩ := h
  obtain ⟨d0, qh0, h⟩ := obind_some h
  rw [argV_eq ok qh0]
  exact call_of (phiE_nat _ _) hs ok mixed Try.func117 (c := spec_l6Depth_code) (by kernel_rfl) (spec_l6Depth_lo n) (by kernel_rfl) (by kernel_rfl) (by kernel_rfl) spec_l6Depth_de ((spec_l6Depth_tie n d0).trans h)
noncomputable def spec_l6Place_code : Code := match Try.f127.body with | some c => c | none => .skip
def spec_l6Place_ann : Ann := fun id => none
def spec_l6Place_Ls (n : Nat) : Nat → Option (LSpec T) := fun id => none
theorem spec_l6Place_tie (n : Nat) (c0 : SChart) (x1 : Int) (y2 : Int) : evF (T := T) (Phi n 10) (spec_l6Place_Ls n) spec_l6Place_ann n Try.f127 (sg 127) [vA T 63 c0, vA T 3 x1, vA T 3 y2] spec_l6Place_dec = spec_l6Place n c0 x1 y2 := by kernel_rfl
theorem spec_l6Place_lo (n : Nat) : LoopsOk (T := T) (Phi n 10) (spec_l6Place_Ls n) spec_l6Place_ann n spec_l6Place_code := loopsOk_all (cs := []) (by kernel_rfl) trivial
theorem spec_l6Place_ok (n : Nat) : EntOk Try.prog (ents n) (spec_l6Place_ent n) := by
  intro hs ar y hg h
  replace h : spec_l6Place_D n ar = some y := h
  unfold spec_l6Place_D at h
  replace h := ocons_some h
  obtain ⟨a0, r0, rfl, h⟩ := h
  replace h := ocons_some h
  obtain ⟨a1, r1, rfl, h⟩ := h
  replace h := ocons_some h
  obtain ⟨a2, r2, rfl, h⟩ := h
  replace h := onil_some h
  obtain ⟨rfl, h⟩ := h
  obtain ⟨c0, qh0, h⟩ := obind_some h
  obtain ⟨x1, qh1, h⟩ := obind_some h
  obtain ⟨y2, qh2, h⟩ := obind_some h
  rw [argV_eq ok qh0, argV_eq ok qh1, argV_eq ok qh2]
  exact call_of (phiE_nat _ _) hs ok mixed Try.func127 (c := spec_l6Place_code) (by kernel_rfl) (spec_l6Place_lo n) (by kernel_rfl) (by kernel_rfl) (by kernel_rfl) spec_l6Place_de ((spec_l6Place_tie n c0 x1 y2).trans h)
noncomputable def spec_l6Feature_code : Code := match Try.f118.body with | some c => c | none => .skip
def spec_l6Feature_ann : Ann := fun id => none
def spec_l6Feature_Ls (n : Nat) : Nat → Option (LSpec T) := fun id => none
theorem spec_l6Feature_tie (n : Nat) (c0 : SChart) (f1 : SFeature) : evF (T := T) (Phi n 11) (spec_l6Feature_Ls n) spec_l6Feature_ann n Try.f118 (sg 118) [vA T 63 c0, vA T 181 f1] spec_l6Feature_dec = spec_l6Feature n c0 f1 := by kernel_rfl
theorem spec_l6Feature_lo (n : Nat) : LoopsOk (T := T) (Phi n 11) (spec_l6Feature_Ls n) spec_l6Feature_ann n spec_l6Feature_code := loopsOk_all (cs := []) (by kernel_rfl) trivial
theorem spec_l6Feature_ok (n : Nat) : EntOk Try.prog (ents n) (spec_l6Feature_ent n) := by
  intro hs ar y hg h
  replace h : spec_l6Feature_D n ar = some y := h
  unfold spec_l6Feature_D at h
  replace h := ocons_some h
  obtain ⟨a0, r0, rfl, h⟩ := h
  replace h := ocons_some h
  obtain ⟨a1, r1, rfl, h⟩ := h
  replace h := onil_some h
  obtain ⟨rfl, h⟩ := h
  obtain ⟨c0, qh0, h⟩ := obind_some h
  obtain ⟨f1, qh1, h⟩ := obind_some h
  rw [argV_eq ok qh0, argV_eq ok qh1]
  exact call_of (phiE_nat _ _) hs ok mixed Try.func118 (c := spec_l6Feature_code) (by kernel_rfl) (spec_l6Feature_lo n) (by kernel_rfl) (by kernel_rfl) (by kernel_rfl) spec_l6Feature_de ((spec_l6Feature_tie n c0 f1).trans h)
noncomputable def spec_ChartOk_code : Code := match Try.f43.body with | some c => c | none => .skip
def spec_ChartOk_4_sv : List Sv := [.one (.ptr 8 0 0), .one (.int .i64)]
def spec_ChartOk_4_so : List So := [.var [.int .i64, .int .i64, .arr 3, .arr 181, .int .i64]]
def spec_ChartOk_4_emb (c : SChart) (x : Int) : EVs T spec_ChartOk_4_sv × EOs T spec_ChartOk_4_so := (((), x, ()), ((c.Wide, c.High, c.Depths, c.Features, c.Edition, ()), ()))
def spec_ChartOk_4_prj (y : EVs T spec_ChartOk_4_sv × EOs T spec_ChartOk_4_so) : SChart × Int := ((((⟨y.2.1.1, y.2.1.2.1, y.2.1.2.2.1, y.2.1.2.2.2.1, y.2.1.2.2.2.2.1⟩ : SChart) : SChart)), (y.1.2.1))
def spec_ChartOk_4_b (n : Nat) {R : Type} (K : Ex → Sm.St T → Option R) (c : SChart) (x : Int) (J : Int → Option R) : Option R :=
  spec_ChartOk_L4 n (K (.exit 0) (stOf (T := T) [1] [8] [.one (.ptr 8 0 0)] [.var [.int .i64, .int .i64, .arr 3, .arr 181, .int .i64]] ((), ()) ((c.Wide, c.High, c.Depths, c.Features, c.Edition, ()), ()))) (fun (y0 : Bool) => K .ret (stOf (T := T) [2] [] [.one (.bool)] [] (y0, ()) ())) J x c
def spec_ChartOk_4_sp (n : Nat) : LSpec T := mkSpec T ⟨[], [1, 3], [8]⟩ spec_ChartOk_4_sv spec_ChartOk_4_so (SChart) (Int) spec_ChartOk_4_emb spec_ChartOk_4_prj (spec_ChartOk_4_b n)
noncomputable def spec_ChartOk_4_c : Code := ((loopCodes spec_ChartOk_code)[0]?).getD .skip
def spec_ChartOk_9_sv : List Sv := [.one (.ptr 8 0 0), .one (.int .i64)]
def spec_ChartOk_9_so : List So := [.var [.int .i64, .int .i64, .arr 3, .arr 181, .int .i64]]
def spec_ChartOk_9_emb (c : SChart) (x : Int) : EVs T spec_ChartOk_9_sv × EOs T spec_ChartOk_9_so := (((), x, ()), ((c.Wide, c.High, c.Depths, c.Features, c.Edition, ()), ()))
def spec_ChartOk_9_prj (y : EVs T spec_ChartOk_9_sv × EOs T spec_ChartOk_9_so) : SChart × Int := ((((⟨y.2.1.1, y.2.1.2.1, y.2.1.2.2.1, y.2.1.2.2.2.1, y.2.1.2.2.2.2.1⟩ : SChart) : SChart)), (y.1.2.1))
def spec_ChartOk_9_b (n : Nat) {R : Type} (K : Ex → Sm.St T → Option R) (c : SChart) (x : Int) (J : Int → Option R) : Option R :=
  spec_ChartOk_L9 n (K (.exit 2) (stOf (T := T) [] [] [] [] () ())) (fun (y0 : Bool) => K .ret (stOf (T := T) [2] [] [.one (.bool)] [] (y0, ()) ())) J x c
def spec_ChartOk_9_sp (n : Nat) : LSpec T := mkSpec T ⟨[], [1, 4], [8]⟩ spec_ChartOk_9_sv spec_ChartOk_9_so (SChart) (Int) spec_ChartOk_9_emb spec_ChartOk_9_prj (spec_ChartOk_9_b n)
noncomputable def spec_ChartOk_9_c : Code := ((loopCodes spec_ChartOk_code)[1]?).getD .skip
def spec_ChartOk_ann : Ann := fun id => bif Nat.beq id 3000004 then some ⟨[], [1], [8]⟩ else bif Nat.beq id 2000004 then some ⟨[], [2], []⟩ else bif Nat.beq id 5000009 then some ⟨[], [], []⟩ else bif Nat.beq id 2000009 then some ⟨[], [2], []⟩ else none
def spec_ChartOk_Ls (n : Nat) : Nat → Option (LSpec T) := fun id => bif Nat.beq id 4 then some (spec_ChartOk_4_sp n) else bif Nat.beq id 9 then some (spec_ChartOk_9_sp n) else none
theorem spec_ChartOk_4_le (n : Nat) : LoopEq (T := T) (Phi n 12) (spec_ChartOk_Ls n) spec_ChartOk_ann n spec_ChartOk_4_c (spec_ChartOk_4_sp n) := ⟨mkSpec_dec (fun y => rfl), fun c x => by kernel_rfl, fun K J c x => by kernel_rfl⟩
theorem spec_ChartOk_9_le (n : Nat) : LoopEq (T := T) (Phi n 12) (spec_ChartOk_Ls n) spec_ChartOk_ann n spec_ChartOk_9_c (spec_ChartOk_9_sp n) := ⟨mkSpec_dec (fun y => rfl), fun c x => by kernel_rfl, fun K J c x => by kernel_rfl⟩
theorem spec_ChartOk_tie (n : Nat) (c0 : SChart) : evF (T := T) (Phi n 12) (spec_ChartOk_Ls n) spec_ChartOk_ann n Try.f43 (sg 43) [vA T 63 c0] spec_ChartOk_dec = spec_ChartOk n c0 := by kernel_rfl
theorem spec_ChartOk_lo (n : Nat) : LoopsOk (T := T) (Phi n 12) (spec_ChartOk_Ls n) spec_ChartOk_ann n spec_ChartOk_code := loopsOk_all (cs := [spec_ChartOk_4_c, spec_ChartOk_9_c]) (by kernel_rfl) ⟨⟨_, by kernel_rfl, spec_ChartOk_4_le n⟩, ⟨_, by kernel_rfl, spec_ChartOk_9_le n⟩, trivial⟩
theorem spec_ChartOk_ok (n : Nat) : EntOk Try.prog (ents n) (spec_ChartOk_ent n) := by
  intro hs ar y hg h
  replace h : spec_ChartOk_D n ar = some y := h
  unfold spec_ChartOk_D at h
  replace h := ocons_some h
  obtain ⟨a0, r0, rfl, h⟩ := h
  replace h := onil_some h
  obtain ⟨rfl, h⟩ := h
  obtain ⟨c0, qh0, h⟩ := obind_some h
  rw [argV_eq ok qh0]
  exact call_of (phiE_nat _ _) hs ok mixed Try.func43 (c := spec_ChartOk_code) (by kernel_rfl) (spec_ChartOk_lo n) (by kernel_rfl) (by kernel_rfl) (by kernel_rfl) spec_ChartOk_de ((spec_ChartOk_tie n c0).trans h)
noncomputable def spec_l3Size_code : Code := match Try.f128.body with | some c => c | none => .skip
def spec_l3Size_ann : Ann := fun id => none
def spec_l3Size_Ls (n : Nat) : Nat → Option (LSpec T) := fun id => none
theorem spec_l3Size_tie (n : Nat) (x0 : Int) : evF (T := T) (Phi n 13) (spec_l3Size_Ls n) spec_l3Size_ann n Try.f128 (sg 128) [vA T 3 x0] spec_l3Size_dec = spec_l3Size n x0 := by kernel_rfl
theorem spec_l3Size_lo (n : Nat) : LoopsOk (T := T) (Phi n 13) (spec_l3Size_Ls n) spec_l3Size_ann n spec_l3Size_code := loopsOk_all (cs := []) (by kernel_rfl) trivial
theorem spec_l3Size_ok (n : Nat) : EntOk Try.prog (ents n) (spec_l3Size_ent n) := by
  intro hs ar y hg h
  replace h : spec_l3Size_D n ar = some y := h
  unfold spec_l3Size_D at h
  replace h := ocons_some h
  obtain ⟨a0, r0, rfl, h⟩ := h
  replace h := onil_some h
  obtain ⟨rfl, h⟩ := h
  obtain ⟨x0, qh0, h⟩ := obind_some h
  rw [argV_eq ok qh0]
  exact call_of (phiE_nat _ _) hs ok mixed Try.func128 (c := spec_l3Size_code) (by kernel_rfl) (spec_l3Size_lo n) (by kernel_rfl) (by kernel_rfl) (by kernel_rfl) spec_l3Size_de ((spec_l3Size_tie n x0).trans h)
noncomputable def spec_Near6_code : Code := match Try.f48.body with | some c => c | none => .skip
def spec_Near6_5_sv : List Sv := [.one (.int .i64), .one (.int .i64), .one (.int .i64), .one (.ptr 32 0 0), .one (.own 3000000 3 false), .one (.int .i64)]
def spec_Near6_5_so : List So := [.var [.int .i64, .int .i64, .arr 3, .arr 181, .int .i64], .arr 3 false]
def spec_Near6_5_emb (c : Int × Int × Int × SChart) (x : Int × List Int) : EVs T spec_Near6_5_sv × EOs T spec_Near6_5_so := ((c.1, c.2.1, c.2.2.1, (), (), x.1, ()), ((c.2.2.2.Wide, c.2.2.2.High, c.2.2.2.Depths, c.2.2.2.Features, c.2.2.2.Edition, ()), x.2, ()))
def spec_Near6_5_prj (y : EVs T spec_Near6_5_sv × EOs T spec_Near6_5_so) : (Int × Int × Int × SChart) × (Int × List Int) := ((y.1.1, y.1.2.1, y.1.2.2.1, ((⟨y.2.1.1, y.2.1.2.1, y.2.1.2.2.1, y.2.1.2.2.2.1, y.2.1.2.2.2.2.1⟩ : SChart) : SChart)), (y.1.2.2.2.2.2.1, y.2.2.1))
def spec_Near6_5_b (n : Nat) {R : Type} (K : Ex → Sm.St T → Option R) (c : Int × Int × Int × SChart) (x : Int × List Int) (J : (Int × List Int) → Option R) : Option R :=
  spec_Near6_L5 n (fun (y0 : List Int) => K (.exit 0) (stOf (T := T) [9] [3000000] [.one (.own 3000000 3 false)] [.arr 3 false] ((), ()) (y0, ()))) (fun z0 z1 => J (z0, z1)) c.1 c.2.1 c.2.2.1 x.1 c.2.2.2 x.2
def spec_Near6_5_sp (n : Nat) : LSpec T := mkSpec T ⟨[((.reg 9), 3000000, 3)], [1, 2, 3, 4, 9, 10], [32, 3000000]⟩ spec_Near6_5_sv spec_Near6_5_so (Int × Int × Int × SChart) (Int × List Int) spec_Near6_5_emb spec_Near6_5_prj (spec_Near6_5_b n)
noncomputable def spec_Near6_5_c : Code := ((loopCodes spec_Near6_code)[0]?).getD .skip
def spec_Near6_8_sv : List Sv := [.one (.int .i64), .one (.int .i64), .one (.int .i64), .one (.ptr 32 0 0), .one (.own 3000000 3 false), .one (.int .i64), .one (.int .i64)]
def spec_Near6_8_so : List So := [.var [.int .i64, .int .i64, .arr 3, .arr 181, .int .i64], .arr 3 false]
def spec_Near6_8_emb (c : Int × Int × Int × Int × SChart) (x : Int × List Int) : EVs T spec_Near6_8_sv × EOs T spec_Near6_8_so := ((c.1, c.2.1, c.2.2.1, (), (), c.2.2.2.1, x.1, ()), ((c.2.2.2.2.Wide, c.2.2.2.2.High, c.2.2.2.2.Depths, c.2.2.2.2.Features, c.2.2.2.2.Edition, ()), x.2, ()))
def spec_Near6_8_prj (y : EVs T spec_Near6_8_sv × EOs T spec_Near6_8_so) : (Int × Int × Int × Int × SChart) × (Int × List Int) := ((y.1.1, y.1.2.1, y.1.2.2.1, y.1.2.2.2.2.2.1, ((⟨y.2.1.1, y.2.1.2.1, y.2.1.2.2.1, y.2.1.2.2.2.1, y.2.1.2.2.2.2.1⟩ : SChart) : SChart)), (y.1.2.2.2.2.2.2.1, y.2.2.1))
def spec_Near6_8_b (n : Nat) {R : Type} (K : Ex → Sm.St T → Option R) (c : Int × Int × Int × Int × SChart) (x : Int × List Int) (J : (Int × List Int) → Option R) : Option R :=
  spec_Near6_L8 n (fun (y5 : List Int) => K (.exit 2) (stOf (T := T) [1, 2, 3, 4, 9, 10] [32, 3000000] [.one (.int .i64), .one (.int .i64), .one (.int .i64), .one (.ptr 32 0 0), .one (.own 3000000 3 false), .one (.int .i64)] [.var [.int .i64, .int .i64, .arr 3, .arr 181, .int .i64], .arr 3 false] (c.1, c.2.1, c.2.2.1, (), (), c.2.2.2.1, ()) ((c.2.2.2.2.Wide, c.2.2.2.2.High, c.2.2.2.2.Depths, c.2.2.2.2.Features, c.2.2.2.2.Edition, ()), y5, ()))) (fun z0 z1 => J (z0, z1)) c.1 c.2.1 c.2.2.1 c.2.2.2.1 x.1 c.2.2.2.2 x.2
def spec_Near6_8_sp (n : Nat) : LSpec T := mkSpec T ⟨[((.reg 9), 3000000, 3)], [1, 2, 3, 4, 9, 10, 11], [32, 3000000]⟩ spec_Near6_8_sv spec_Near6_8_so (Int × Int × Int × Int × SChart) (Int × List Int) spec_Near6_8_emb spec_Near6_8_prj (spec_Near6_8_b n)
noncomputable def spec_Near6_8_c : Code := ((loopCodes spec_Near6_code)[1]?).getD .skip
def spec_Near6_ann : Ann := fun id => bif Nat.beq id 3000005 then some ⟨[((.reg 9), 3000000, 3)], [9], [3000000]⟩ else bif Nat.beq id 5000008 then some ⟨[((.reg 9), 3000000, 3)], [1, 2, 3, 4, 9, 10], [32, 3000000]⟩ else none
def spec_Near6_Ls (n : Nat) : Nat → Option (LSpec T) := fun id => bif Nat.beq id 5 then some (spec_Near6_5_sp n) else bif Nat.beq id 8 then some (spec_Near6_8_sp n) else none
theorem spec_Near6_5_le (n : Nat) : LoopEq (T := T) (Phi n 14) (spec_Near6_Ls n) spec_Near6_ann n spec_Near6_5_c (spec_Near6_5_sp n) := ⟨mkSpec_dec (fun y => rfl), fun c x => by kernel_rfl, fun K J c x => by kernel_rfl⟩
theorem spec_Near6_8_le (n : Nat) : LoopEq (T := T) (Phi n 14) (spec_Near6_Ls n) spec_Near6_ann n spec_Near6_8_c (spec_Near6_8_sp n) := ⟨mkSpec_dec (fun y => rfl), fun c x => by kernel_rfl, fun K J c x => by kernel_rfl⟩
theorem spec_Near6_tie (n : Nat) (c0 : SChart) (x1 : Int) (y2 : Int) (far3 : Int) : evF (T := T) (Phi n 14) (spec_Near6_Ls n) spec_Near6_ann n Try.f48 (sg 48) [vA T 63 c0, vA T 3 x1, vA T 3 y2, vA T 3 far3] spec_Near6_dec = spec_Near6 n c0 x1 y2 far3 := by kernel_rfl
theorem spec_Near6_lo (n : Nat) : LoopsOk (T := T) (Phi n 14) (spec_Near6_Ls n) spec_Near6_ann n spec_Near6_code := loopsOk_all (cs := [spec_Near6_5_c, spec_Near6_8_c]) (by kernel_rfl) ⟨⟨_, by kernel_rfl, spec_Near6_5_le n⟩, ⟨_, by kernel_rfl, spec_Near6_8_le n⟩, trivial⟩
theorem spec_Near6_ok (n : Nat) : EntOk Try.prog (ents n) (spec_Near6_ent n) := by
  intro hs ar y hg h
  replace h : spec_Near6_D n ar = some y := h
  unfold spec_Near6_D at h
  replace h := ocons_some h
  obtain ⟨a0, r0, rfl, h⟩ := h
  replace h := ocons_some h
  obtain ⟨a1, r1, rfl, h⟩ := h
  replace h := ocons_some h
  obtain ⟨a2, r2, rfl, h⟩ := h
  replace h := ocons_some h
  obtain ⟨a3, r3, rfl, h⟩ := h
  replace h := onil_some h
  obtain ⟨rfl, h⟩ := h
  obtain ⟨c0, qh0, h⟩ := obind_some h
  obtain ⟨x1, qh1, h⟩ := obind_some h
  obtain ⟨y2, qh2, h⟩ := obind_some h
  obtain ⟨far3, qh3, h⟩ := obind_some h
  rw [argV_eq ok qh0, argV_eq ok qh1, argV_eq ok qh2, argV_eq ok qh3]
  exact call_of (phiE_nat _ _) hs ok mixed Try.func48 (c := spec_Near6_code) (by kernel_rfl) (spec_Near6_lo n) (by kernel_rfl) (by kernel_rfl) (by kernel_rfl) spec_Near6_de ((spec_Near6_tie n c0 x1 y2 far3).trans h)
noncomputable def impl_in_code : Code := match Try.f119.body with | some c => c | none => .skip
def impl_in_ann : Ann := fun id => none
def impl_in_Ls (n : Nat) : Nat → Option (LSpec T) := fun id => none
theorem impl_in_tie (n : Nat) (n0 : Int) (least1 : Int) (most2 : Int) : evF (T := T) (Phi n 15) (impl_in_Ls n) impl_in_ann n Try.f119 (sg 119) [vA T 3 n0, vA T 3 least1, vA T 3 most2] impl_in_dec = impl_in n n0 least1 most2 := by kernel_rfl
theorem impl_in_lo (n : Nat) : LoopsOk (T := T) (Phi n 15) (impl_in_Ls n) impl_in_ann n impl_in_code := loopsOk_all (cs := []) (by kernel_rfl) trivial
theorem impl_in_ok (n : Nat) : EntOk Try.prog (ents n) (impl_in_ent n) := by
  intro hs ar y hg h
  replace h : impl_in_D n ar = some y := h
  unfold impl_in_D at h
  replace h := ocons_some h
  obtain ⟨a0, r0, rfl, h⟩ := h
  replace h := ocons_some h
  obtain ⟨a1, r1, rfl, h⟩ := h
  replace h := ocons_some h
  obtain ⟨a2, r2, rfl, h⟩ := h
  replace h := onil_some h
  obtain ⟨rfl, h⟩ := h
  obtain ⟨n0, qh0, h⟩ := obind_some h
  obtain ⟨least1, qh1, h⟩ := obind_some h
  obtain ⟨most2, qh2, h⟩ := obind_some h
  rw [argV_eq ok qh0, argV_eq ok qh1, argV_eq ok qh2]
  exact call_of (phiE_nat _ _) hs ok mixed Try.func119 (c := impl_in_code) (by kernel_rfl) (impl_in_lo n) (by kernel_rfl) (by kernel_rfl) (by kernel_rfl) impl_in_de ((impl_in_tie n n0 least1 most2).trans h)
noncomputable def impl_all_1_code : Code := match Try.f196.body with | some c => c | none => .skip
def impl_all_1_ann : Ann := fun id => none
def impl_all_1_Ls (n : Nat) : Nat → Option (LSpec T) := fun id => none
theorem impl_all_1_tie (n : Nat) (n0 : Int) (a1 : Int) (a2 : Int) : evF (T := T) (Phi n 16) (impl_all_1_Ls n) impl_all_1_ann n Try.f196 (sg 196) [vA T 3 n0, .ptr 3 a1, .ptr 3 a2] impl_all_1_dec = impl_all_1 n n0 a1 a2 := by kernel_rfl
theorem impl_all_1_lo (n : Nat) : LoopsOk (T := T) (Phi n 16) (impl_all_1_Ls n) impl_all_1_ann n impl_all_1_code := loopsOk_all (cs := []) (by kernel_rfl) trivial
theorem impl_all_1_ok (n : Nat) : EntOk Try.prog (ents n) (impl_all_1_ent n) := by
  intro hs ar y hg h
  replace h : impl_all_1_D n ar = some y := h
  unfold impl_all_1_D at h
  replace h := ocons_some h
  obtain ⟨a0, r0, rfl, h⟩ := h
  replace h := ocons_some h
  obtain ⟨a1, r1, rfl, h⟩ := h
  replace h := ocons_some h
  obtain ⟨a2, r2, rfl, h⟩ := h
  replace h := onil_some h
  obtain ⟨rfl, h⟩ := h
  obtain ⟨n0, qh0, h⟩ := obind_some h
  obtain ⟨a1, qh1, h⟩ := obind_some h
  obtain ⟨a2, qh2, h⟩ := obind_some h
  rw [argV_eq ok qh0, argP_eq qh1, argP_eq qh2]
  exact call_of (phiE_nat _ _) hs ok mixed Try.func196 (c := impl_all_1_code) (by kernel_rfl) (impl_all_1_lo n) (by kernel_rfl) (by kernel_rfl) (by kernel_rfl) impl_all_1_de ((impl_all_1_tie n n0 a1 a2).trans h)
noncomputable def slices_IndexFunc_int_int__impl_all_1_code : Code := match Try.f222.body with | some c => c | none => .skip
def slices_IndexFunc_int_int__impl_all_1_2_sv : List Sv := [.one (.arr 3), .one (.fnr 196 [3, 3]), .one (.int .i64), .one (.int .i64)]
def slices_IndexFunc_int_int__impl_all_1_2_so : List So := []
def slices_IndexFunc_int_int__impl_all_1_2_emb (c : List Int × Int × Int × Int) (x : Int) : EVs T slices_IndexFunc_int_int__impl_all_1_2_sv × EOs T slices_IndexFunc_int_int__impl_all_1_2_so := ((c.1, (c.2.1, c.2.2.1, ()), c.2.2.2, x, ()), ())
def slices_IndexFunc_int_int__impl_all_1_2_prj (y : EVs T slices_IndexFunc_int_int__impl_all_1_2_sv × EOs T slices_IndexFunc_int_int__impl_all_1_2_so) : (List Int × Int × Int × Int) × Int := ((y.1.1, y.1.2.1.1, y.1.2.1.2.1, y.1.2.2.1), (y.1.2.2.2.1))
def slices_IndexFunc_int_int__impl_all_1_2_b (n : Nat) {R : Type} (K : Ex → Sm.St T → Option R) (c : List Int × Int × Int × Int) (x : Int) (J : Int → Option R) : Option R :=
  slices_IndexFunc_int_int__impl_all_1_L2 n (K (.exit 0) (stOf (T := T) [] [] [] [] () ())) (fun (y0 : Int) => K .ret (stOf (T := T) [4] [] [.one (.int .i64)] [] (y0, ()) ())) J c.1 c.2.1 c.2.2.1 c.2.2.2 x
def slices_IndexFunc_int_int__impl_all_1_2_sp (n : Nat) : LSpec T := mkSpec T ⟨[], [0, 1, 7, 8], []⟩ slices_IndexFunc_int_int__impl_all_1_2_sv slices_IndexFunc_int_int__impl_all_1_2_so (List Int × Int × Int × Int) (Int) slices_IndexFunc_int_int__impl_all_1_2_emb slices_IndexFunc_int_int__impl_all_1_2_prj (slices_IndexFunc_int_int__impl_all_1_2_b n)
noncomputable def slices_IndexFunc_int_int__impl_all_1_2_c : Code := ((loopCodes slices_IndexFunc_int_int__impl_all_1_code)[0]?).getD .skip
def slices_IndexFunc_int_int__impl_all_1_ann : Ann := fun id => bif Nat.beq id 3000002 then some ⟨[], [], []⟩ else bif Nat.beq id 2000002 then some ⟨[], [4], []⟩ else none
def slices_IndexFunc_int_int__impl_all_1_Ls (n : Nat) : Nat → Option (LSpec T) := fun id => bif Nat.beq id 2 then some (slices_IndexFunc_int_int__impl_all_1_2_sp n) else none
theorem slices_IndexFunc_int_int__impl_all_1_2_le (n : Nat) : LoopEq (T := T) (Phi n 17) (slices_IndexFunc_int_int__impl_all_1_Ls n) slices_IndexFunc_int_int__impl_all_1_ann n slices_IndexFunc_int_int__impl_all_1_2_c (slices_IndexFunc_int_int__impl_all_1_2_sp n) := ⟨mkSpec_dec (fun y => rfl), fun c x => by kernel_rfl, fun K J c x => by kernel_rfl⟩
theorem slices_IndexFunc_int_int__impl_all_1_tie (n : Nat) (s0 : List Int) (f1c0 : Int) (f1c1 : Int) : evF (T := T) (Phi n 17) (slices_IndexFunc_int_int__impl_all_1_Ls n) slices_IndexFunc_int_int__impl_all_1_ann n Try.f222 (sg 222) [vA T 55 s0, .fn 196 [.ptr 3 f1c0, .ptr 3 f1c1]] slices_IndexFunc_int_int__impl_all_1_dec = slices_IndexFunc_int_int__impl_all_1 n s0 f1c0 f1c1 := by kernel_rfl
theorem slices_IndexFunc_int_int__impl_all_1_lo (n : Nat) : LoopsOk (T := T) (Phi n 17) (slices_IndexFunc_int_int__impl_all_1_Ls n) slices_IndexFunc_int_int__impl_all_1_ann n slices_IndexFunc_int_int__impl_all_1_code := loopsOk_all (cs := [slices_IndexFunc_int_int__impl_all_1_2_c]) (by kernel_rfl) ⟨⟨_, by kernel_rfl, slices_IndexFunc_int_int__impl_all_1_2_le n⟩, trivial⟩
theorem slices_IndexFunc_int_int__impl_all_1_ok (n : Nat) : EntOk Try.prog (ents n) (slices_IndexFunc_int_int__impl_all_1_ent n) := by
  intro hs ar y hg h
  replace h : slices_IndexFunc_int_int__impl_all_1_D n ar = some y := h
  unfold slices_IndexFunc_int_int__impl_all_1_D at h
  split at h
  · obtain ⟨s0, qh0, h⟩ := obind_some h
    obtain ⟨f1c0, qh1, h⟩ := obind_some h
    obtain ⟨f1c1, qh2, h⟩ := obind_some h
    rw [argV_eq ok qh0, argP_eq qh1, argP_eq qh2] at hg ⊢
    cases (show [_] = [196] from natsEq_eq hg)
    exact call_of (phiE_nat _ _) hs ok mixed Try.func222 (c := slices_IndexFunc_int_int__impl_all_1_code) (by kernel_rfl) (slices_IndexFunc_int_int__impl_all_1_lo n) (by kernel_rfl) (by kernel_rfl) (by kernel_rfl) slices_IndexFunc_int_int__impl_all_1_de ((slices_IndexFunc_int_int__impl_all_1_tie n s0 f1c0 f1c1).trans h)
  · cases h
noncomputable def slices_ContainsFunc_int_int__impl_all_1_code : Code := match Try.f158.body with | some c => c | none => .skip
def slices_ContainsFunc_int_int__impl_all_1_ann : Ann := fun id => none
def slices_ContainsFunc_int_int__impl_all_1_Ls (n : Nat) : Nat → Option (LSpec T) := fun id => none
theorem slices_ContainsFunc_int_int__impl_all_1_tie (n : Nat) (s0 : List Int) (f1c0 : Int) (f1c1 : Int) : evF (T := T) (Phi n 18) (slices_ContainsFunc_int_int__impl_all_1_Ls n) slices_ContainsFunc_int_int__impl_all_1_ann n Try.f158 (sg 158) [vA T 55 s0, .fn 196 [.ptr 3 f1c0, .ptr 3 f1c1]] slices_ContainsFunc_int_int__impl_all_1_dec = slices_ContainsFunc_int_int__impl_all_1 n s0 f1c0 f1c1 := by kernel_rfl
theorem slices_ContainsFunc_int_int__impl_all_1_lo (n : Nat) : LoopsOk (T := T) (Phi n 18) (slices_ContainsFunc_int_int__impl_all_1_Ls n) slices_ContainsFunc_int_int__impl_all_1_ann n slices_ContainsFunc_int_int__impl_all_1_code := loopsOk_all (cs := []) (by kernel_rfl) trivial
theorem slices_ContainsFunc_int_int__impl_all_1_ok (n : Nat) : EntOk Try.prog (ents n) (slices_ContainsFunc_int_int__impl_all_1_ent n) := by
  intro hs ar y hg h
  replace h : slices_ContainsFunc_int_int__impl_all_1_D n ar = some y := h
  unfold slices_ContainsFunc_int_int__impl_all_1_D at h
  split at h
  · obtain ⟨s0, qh0, h⟩ := obind_some h
    obtain ⟨f1c0, qh1, h⟩ := obind_some h
    obtain ⟨f1c1, qh2, h⟩ := obind_some h
    rw [argV_eq ok qh0, argP_eq qh1, argP_eq qh2] at hg ⊢
    cases (show [_] = [196] from natsEq_eq hg)
    exact call_of (phiE_nat _ _) hs ok mixed Try.func158 (c := slices_ContainsFunc_int_int__impl_all_1_code) (by kernel_rfl) (slices_ContainsFunc_int_int__impl_all_1_lo n) (by kernel_rfl) (by kernel_rfl) (by kernel_rfl) slices_ContainsFunc_int_int__impl_all_1_de ((slices_ContainsFunc_int_int__impl_all_1_tie n s0 f1c0 f1c1).trans h)
  · cases h
noncomputable def impl_all_code : Code := match Try.f120.body with | some c => c | none => .skip
def impl_all_ann : Ann := fun id => none
def impl_all_Ls (n : Nat) : Nat → Option (LSpec T) := fun id => none
theorem impl_all_tie (n : Nat) (l0 : List Int) (least1 : Int) (most2 : Int) : evF (T := T) (Phi n 19) (impl_all_Ls n) impl_all_ann n Try.f120 (sg 120) [vA T 55 l0, vA T 3 least1, vA T 3 most2] impl_all_dec = impl_all n l0 least1 most2 := by kernel_rfl
theorem impl_all_lo (n : Nat) : LoopsOk (T := T) (Phi n 19) (impl_all_Ls n) impl_all_ann n impl_all_code := loopsOk_all (cs := []) (by kernel_rfl) trivial
theorem impl_all_ok (n : Nat) : EntOk Try.prog (ents n) (impl_all_ent n) := by
  intro hs ar y hg h
  replace h : impl_all_D n ar = some y := h
  unfold impl_all_D at h
  replace h := ocons_some h
  obtain ⟨a0, r0, rfl, h⟩ := h
  replace h := ocons_some h
  obtain ⟨a1, r1, rfl, h⟩ := h
  replace h := ocons_some h
  obtain ⟨a2, r2, rfl, h⟩ := h
  replace h := onil_some h
  obtain ⟨rfl, h⟩ := h
  obtain ⟨l0, qh0, h⟩ := obind_some h
  obtain ⟨least1, qh1, h⟩ := obind_some h
  obtain ⟨most2, qh2, h⟩ := obind_some h
  rw [argV_eq ok qh0, argV_eq ok qh1, argV_eq ok qh2]
  exact call_of (phiE_nat _ _) hs ok mixed Try.func120 (c := impl_all_code) (by kernel_rfl) (impl_all_lo n) (by kernel_rfl) (by kernel_rfl) (by kernel_rfl) impl_all_de ((impl_all_tie n l0 least1 most2).trans h)
noncomputable def impl_Chart_place_code : Code := match Try.f122.body with | some c => c | none => .skip
def impl_Chart_place_ann : Ann := fun id => none
def impl_Chart_place_Ls (n : Nat) : Nat → Option (LSpec T) := fun id => none
theorem impl_Chart_place_tie (n : Nat) (c0 : SChart) (x1 : Int) (y2 : Int) : evF (T := T) (Phi n 20) (impl_Chart_place_Ls n) impl_Chart_place_ann n Try.f122 (sg 122) [vA T 63 c0, vA T 3 x1, vA T 3 y2] impl_Chart_place_dec = impl_Chart_place n c0 x1 y2 := by kernel_rfl
theorem impl_Chart_place_lo (n : Nat) : LoopsOk (T := T) (Phi n 20) (impl_Chart_place_Ls n) impl_Chart_place_ann n impl_Chart_place_code := loopsOk_all (cs := []) (by kernel_rfl) trivial
theorem impl_Chart_place_ok (n : Nat) : EntOk Try.prog (ents n) (impl_Chart_place_ent n) := by
  intro hs ar y hg h
  replace h : impl_Chart_place_D n ar = some y := h
  unfold impl_Chart_place_D at h
  replace h := ocons_some h
  obtain ⟨a0, r0, rfl, h⟩ := h
  replace h := ocons_some h
  obtain ⟨a1, r1, rfl, h⟩ := h
  replace h := ocons_some h
  obtain ⟨a2, r2, rfl, h⟩ := h
  replace h := onil_some h
  obtain ⟨rfl, h⟩ := h
  obtain ⟨c0, qh0, h⟩ := obind_some h
  obtain ⟨x1, qh1, h⟩ := obind_some h
  obtain ⟨y2, qh2, h⟩ := obind_some h
  rw [argV_eq ok qh0, argV_eq ok qh1, argV_eq ok qh2]
  exact call_of (phiE_nat _ _) hs ok mixed Try.func122 (c := impl_Chart_place_code) (by kernel_rfl) (impl_Chart_place_lo n) (by kernel_rfl) (by kernel_rfl) (by kernel_rfl) impl_Chart_place_de ((impl_Chart_place_tie n c0 x1 y2).trans h)
noncomputable def impl_Chart_featureOk_code : Code := match Try.f121.body with | some c => c | none => .skip
def impl_Chart_featureOk_ann : Ann := fun id => none
def impl_Chart_featureOk_Ls (n : Nat) : Nat → Option (LSpec T) := fun id => none
theorem impl_Chart_featureOk_tie (n : Nat) (c0 : SChart) (f1 : SFeature) : evF (T := T) (Phi n 21) (impl_Chart_featureOk_Ls n) impl_Chart_featureOk_ann n Try.f121 (sg 121) [vA T 63 c0, vA T 181 f1] impl_Chart_featureOk_dec = impl_Chart_featureOk n c0 f1 := by kernel_rfl
theorem impl_Chart_featureOk_lo (n : Nat) : LoopsOk (T := T) (Phi n 21) (impl_Chart_featureOk_Ls n) impl_Chart_featureOk_ann n impl_Chart_featureOk_code := loopsOk_all (cs := []) (by kernel_rfl) trivial
theorem impl_Chart_featureOk_ok (n : Nat) : EntOk Try.prog (ents n) (impl_Chart_featureOk_ent n) := by
  intro hs ar y hg h
  replace h : impl_Chart_featureOk_D n ar = some y := h
  unfold impl_Chart_featureOk_D at h
  replace h := ocons_some h
  obtain ⟨a0, r0, rfl, h⟩ := h
  replace h := ocons_some h
  obtain ⟨a1, r1, rfl, h⟩ := h
  replace h := onil_some h
  obtain ⟨rfl, h⟩ := h
  obtain ⟨c0, qh0, h⟩ := obind_some h
  obtain ⟨f1, qh1, h⟩ := obind_some h
  rw [argV_eq ok qh0, argV_eq ok qh1]
  exact call_of (phiE_nat _ _) hs ok mixed Try.func121 (c := impl_Chart_featureOk_code) (by kernel_rfl) (impl_Chart_featureOk_lo n) (by kernel_rfl) (by kernel_rfl) (by kernel_rfl) impl_Chart_featureOk_de ((impl_Chart_featureOk_tie n c0 f1).trans h)
noncomputable def impl_ChartOk_code : Code := match Try.f44.body with | some c => c | none => .skip
def impl_ChartOk_4_sv : List Sv := [.one (.ptr 8 0 0), .one (.arr 181), .one (.int .i64), .one (.int .i64)]
def impl_ChartOk_4_so : List So := [.var [.int .i64, .int .i64, .arr 3, .arr 181, .int .i64]]
def impl_ChartOk_4_emb (c : List SFeature × Int × SChart) (x : Int) : EVs T impl_ChartOk_4_sv × EOs T impl_ChartOk_4_so := (((), c.1, c.2.1, x, ()), ((c.2.2.Wide, c.2.2.High, c.2.2.Depths, c.2.2.Features, c.2.2.Edition, ()), ()))
def impl_ChartOk_4_prj (y : EVs T impl_ChartOk_4_sv × EOs T impl_ChartOk_4_so) : (List SFeature × Int × SChart) × Int := ((y.1.2.1, y.1.2.2.1, ((⟨y.2.1.1, y.2.1.2.1, y.2.1.2.2.1, y.2.1.2.2.2.1, y.2.1.2.2.2.2.1⟩ : SChart) : SChart)), (y.1.2.2.2.1))
def impl_ChartOk_4_b (n : Nat) {R : Type} (K : Ex → Sm.St T → Option R) (c : List SFeature × Int × SChart) (x : Int) (J : Int → Option R) : Option R :=
  impl_ChartOk_L4 n (K (.exit 0) (stOf (T := T) [] [] [] [] () ())) (fun (y0 : Bool) => K .ret (stOf (T := T) [2] [] [.one (.bool)] [] (y0, ()) ())) J c.1 c.2.1 x c.2.2
def impl_ChartOk_4_sp (n : Nat) : LSpec T := mkSpec T ⟨[], [1, 45, 46, 47], [8]⟩ impl_ChartOk_4_sv impl_ChartOk_4_so (List SFeature × Int × SChart) (Int) impl_ChartOk_4_emb impl_ChartOk_4_prj (impl_ChartOk_4_b n)
noncomputable def impl_ChartOk_4_c : Code := ((loopCodes impl_ChartOk_code)[0]?).getD .skip
def impl_ChartOk_ann : Ann := fun id => bif Nat.beq id 3000004 then some ⟨[], [], []⟩ else bif Nat.beq id 2000004 then some ⟨[], [2], []⟩ else none
def impl_ChartOk_Ls (n : Nat) : Nat → Option (LSpec T) := fun id => bif Nat.beq id 4 then some (impl_ChartOk_4_sp n) else none
theorem impl_ChartOk_4_le (n : Nat) : LoopEq (T := T) (Phi n 22) (impl_ChartOk_Ls n) impl_ChartOk_ann n impl_ChartOk_4_c (impl_ChartOk_4_sp n) := ⟨mkSpec_dec (fun y => rfl), fun c x => by kernel_rfl, fun K J c x => by kernel_rfl⟩
theorem impl_ChartOk_tie (n : Nat) (c0 : SChart) : evF (T := T) (Phi n 22) (impl_ChartOk_Ls n) impl_ChartOk_ann n Try.f44 (sg 44) [vA T 63 c0] impl_ChartOk_dec = impl_ChartOk n c0 := by kernel_rfl
theorem impl_ChartOk_lo (n : Nat) : LoopsOk (T := T) (Phi n 22) (impl_ChartOk_Ls n) impl_ChartOk_ann n impl_ChartOk_code := loopsOk_all (cs := [impl_ChartOk_4_c]) (by kernel_rfl) ⟨⟨_, by kernel_rfl, impl_ChartOk_4_le n⟩, trivial⟩
theorem impl_ChartOk_ok (n : Nat) : EntOk Try.prog (ents n) (impl_ChartOk_ent n) := by
  intro hs ar y hg h
  replace h : impl_ChartOk_D n ar = some y := h
  unfold impl_ChartOk_D at h
  replace h := ocons_some h
  obtain ⟨a0, r0, rfl, h⟩ := h
  replace h := onil_some h
  obtain ⟨rfl, h⟩ := h
  obtain ⟨c0, qh0, h⟩ := obind_some h
  rw [argV_eq ok qh0]
  exact call_of (phiE_nat _ _) hs ok mixed Try.func44 (c := impl_ChartOk_code) (by kernel_rfl) (impl_ChartOk_lo n) (by kernel_rfl) (by kernel_rfl) (by kernel_rfl) impl_ChartOk_de ((impl_ChartOk_tie n c0).trans h)
noncomputable def impl_size_code : Code := match Try.f123.body with | some c => c | none => .skip
def impl_size_ann : Ann := fun id => none
def impl_size_Ls (n : Nat) : Nat → Option (LSpec T) := fun id => none
theorem impl_size_tie (n : Nat) (n0 : Int) : evF (T := T) (Phi n 23) (impl_size_Ls n) impl_size_ann n Try.f123 (sg 123) [vA T 3 n0] impl_size_dec = impl_size n n0 := by kernel_rfl
theorem impl_size_lo (n : Nat) : LoopsOk (T := T) (Phi n 23) (impl_size_Ls n) impl_size_ann n impl_size_code := loopsOk_all (cs := []) (by kernel_rfl) trivial
theorem impl_size_ok (n : Nat) : EntOk Try.prog (ents n) (impl_size_ent n) := by
  intro hs ar y hg h
  replace h : impl_size_D n ar = some y := h
  unfold impl_size_D at h
  replace h := ocons_some h
  obtain ⟨a0, r0, rfl, h⟩ := h
  replace h := onil_some h
  obtain ⟨rfl, h⟩ := h
  obtain ⟨n0, qh0, h⟩ := obind_some h
  rw [argV_eq ok qh0]
  exact call_of (phiE_nat _ _) hs ok mixed Try.func123 (c := impl_size_code) (by kernel_rfl) (impl_size_lo n) (by kernel_rfl) (by kernel_rfl) (by kernel_rfl) impl_size_de ((impl_size_tie n n0).trans h)
noncomputable def cmp_isNaN_int_code : Code := match Try.f248.body with | some c => c | none => .skip
def cmp_isNaN_int_ann : Ann := fun id => none
def cmp_isNaN_int_Ls (n : Nat) : Nat → Option (LSpec T) := fun id => none
theorem cmp_isNaN_int_tie (n : Nat) (x0 : Int) : evF (T := T) (Phi n 24) (cmp_isNaN_int_Ls n) cmp_isNaN_int_ann n Try.f248 (sg 248) [vA T 3 x0] cmp_isNaN_int_dec = cmp_isNaN_int n x0 := by kernel_rfl
theorem cmp_isNaN_int_lo (n : Nat) : LoopsOk (T := T) (Phi n 24) (cmp_isNaN_int_Ls n) cmp_isNaN_int_ann n cmp_isNaN_int_code := loopsOk_all (cs := []) (by kernel_rfl) trivial
theorem cmp_isNaN_int_ok (n : Nat) : EntOk Try.prog (ents n) (cmp_isNaN_int_ent n) := by
  intro hs ar y hg h
  replace h : cmp_isNaN_int_D n ar = some y := h
  unfold cmp_isNaN_int_D at h
  replace h := ocons_some h
  obtain ⟨a0, r0, rfl, h⟩ := h
  replace h := onil_some h
  obtain ⟨rfl, h⟩ := h
  obtain ⟨x0, qh0, h⟩ := obind_some h
  rw [argV_eq ok qh0]
  exact call_of (phiE_nat _ _) hs ok mixed Try.func248 (c := cmp_isNaN_int_code) (by kernel_rfl) (cmp_isNaN_int_lo n) (by kernel_rfl) (by kernel_rfl) (by kernel_rfl) cmp_isNaN_int_de ((cmp_isNaN_int_tie n x0).trans h)
noncomputable def cmp_Compare_int_code : Code := match Try.f199.body with | some c => c | none => .skip
def cmp_Compare_int_ann : Ann := fun id => none
def cmp_Compare_int_Ls (n : Nat) : Nat → Option (LSpec T) := fun id => none
theorem cmp_Compare_int_tie (n : Nat) (x0 : Int) (y1 : Int) : evF (T := T) (Phi n 25) (cmp_Compare_int_Ls n) cmp_Compare_int_ann n Try.f199 (sg 199) [vA T 3 x0, vA T 3 y1] cmp_Compare_int_dec = cmp_Compare_int n x0 y1 := by kernel_rfl
theorem cmp_Compare_int_lo (n : Nat) : LoopsOk (T := T) (Phi n 25) (cmp_Compare_int_Ls n) cmp_Compare_int_ann n cmp_Compare_int_code := loopsOk_all (cs := []) (by kernel_rfl) trivial
theorem cmp_Compare_int_ok (n : Nat) : EntOk Try.prog (ents n) (cmp_Compare_int_ent n) := by
  intro hs ar y hg h
  replace h : cmp_Compare_int_D n ar = some y := h
  unfold cmp_Compare_int_D at h
  replace h := ocons_some h
  obtain ⟨a0, r0, rfl, h⟩ := h
  replace h := ocons_some h
  obtain ⟨a1, r1, rfl, h⟩ := h
  replace h := onil_some h
  obtain ⟨rfl, h⟩ := h
  obtain ⟨x0, qh0, h⟩ := obind_some h
  obtain ⟨y1, qh1, h⟩ := obind_some h
  rw [argV_eq ok qh0, argV_eq ok qh1]
  exact call_of (phiE_nat _ _) hs ok mixed Try.func199 (c := cmp_Compare_int_code) (by kernel_rfl) (cmp_Compare_int_lo n) (by kernel_rfl) (by kernel_rfl) (by kernel_rfl) cmp_Compare_int_de ((cmp_Compare_int_tie n x0 y1).trans h)
noncomputable def slices_Compare_int_int_code : Code := match Try.f126.body with | some c => c | none => .skip
def slices_Compare_int_int_2_sv : List Sv := [.one (.arr 3), .one (.arr 3), .one (.arr 3), .one (.int .i64), .one (.int .i64)]
def slices_Compare_int_int_2_so : List So := []
def slices_Compare_int_int_2_emb (c : List Int × List Int × List Int × Int) (x : Int) : EVs T slices_Compare_int_int_2_sv × EOs T slices_Compare_int_int_2_so := ((c.1, c.2.1, c.2.2.1, c.2.2.2, x, ()), ())
def slices_Compare_int_int_2_prj (y : EVs T slices_Compare_int_int_2_sv × EOs T slices_Compare_int_int_2_so) : (List Int × List Int × List Int × Int) × Int := ((y.1.1, y.1.2.1, y.1.2.2.1, y.1.2.2.2.1), (y.1.2.2.2.2.1))
def slices_Compare_int_int_2_b (n : Nat) {R : Type} (K : Ex → Sm.St T → Option R) (c : List Int × List Int × List Int × Int) (x : Int) (J : Int → Option R) : Option R :=
  slices_Compare_int_int_L2 n (K (.exit 0) (stOf (T := T) [0, 1] [] [.one (.arr 3), .one (.arr 3)] [] (c.1, c.2.1, ()) ())) (fun (y0 : Int) => K .ret (stOf (T := T) [4] [] [.one (.int .i64)] [] (y0, ()) ())) J c.1 c.2.1 c.2.2.1 c.2.2.2 x
def slices_Compare_int_int_2_sp (n : Nat) : LSpec T := mkSpec T ⟨[], [0, 1, 9, 10, 11], []⟩ slices_Compare_int_int_2_sv slices_Compare_int_int_2_so (List Int × List Int × List Int × Int) (Int) slices_Compare_int_int_2_emb slices_Compare_int_int_2_prj (slices_Compare_int_int_2_b n)
noncomputable def slices_Compare_int_int_2_c : Code := ((loopCodes slices_Compare_int_int_code)[0]?).getD .skip
def slices_Compare_int_int_ann : Ann := fun id => bif Nat.beq id 3000002 then some ⟨[], [0, 1], []⟩ else bif Nat.beq id 2000002 then some ⟨[], [4], []⟩ else none
def slices_Compare_int_int_Ls (n : Nat) : Nat → Option (LSpec T) := fun id => bif Nat.beq id 2 then some (slices_Compare_int_int_2_sp n) else none
theorem slices_Compare_int_int_2_le (n : Nat) : LoopEq (T := T) (Phi n 26) (slices_Compare_int_int_Ls n) slices_Compare_int_int_ann n slices_Compare_int_int_2_c (slices_Compare_int_int_2_sp n) := ⟨mkSpec_dec (fun y => rfl), fun c x => by kernel_rfl, fun K J c x => by kernel_rfl⟩
theorem slices_Compare_int_int_tie (n : Nat) (s10 : List Int) (s21 : List Int) : evF (T := T) (Phi n 26) (slices_Compare_int_int_Ls n) slices_Compare_int_int_ann n Try.f126 (sg 126) [vA T 55 s10, vA T 55 s21] slices_Compare_int_int_dec = slices_Compare_int_int n s10 s21 := by kernel_rfl
theorem slices_Compare_int_int_lo (n : Nat) : LoopsOk (T := T) (Phi n 26) (slices_Compare_int_int_Ls n) slices_Compare_int_int_ann n slices_Compare_int_int_code := loopsOk_all (cs := [slices_Compare_int_int_2_c]) (by kernel_rfl) ⟨⟨_, by kernel_rfl, slices_Compare_int_int_2_le n⟩, trivial⟩
theorem slices_Compare_int_int_ok (n : Nat) : EntOk Try.prog (ents n) (slices_Compare_int_int_ent n) := by
  intro hs ar y hg h
  replace h : slices_Compare_int_int_D n ar = some y := h
  unfold slices_Compare_int_int_D at h
  replace h := ocons_some h
  obtain ⟨a0, r0, rfl, h⟩ := h
  replace h := ocons_some h
  obtain ⟨a1, r1, rfl, h⟩ := h
  replace h := onil_some h
  obtain ⟨rfl, h⟩ := h
  obtain ⟨s10, qh0, h⟩ := obind_some h
  obtain ⟨s21, qh1, h⟩ := obind_some h
  rw [argV_eq ok qh0, argV_eq ok qh1]
  exact call_of (phiE_nat _ _) hs ok mixed Try.func126 (c := slices_Compare_int_int_code) (by kernel_rfl) (slices_Compare_int_int_lo n) (by kernel_rfl) (by kernel_rfl) (by kernel_rfl) slices_Compare_int_int_de ((slices_Compare_int_int_tie n s10 s21).trans h)
noncomputable def impl_Near6_1_code : Code := match Try.f125.body with | some c => c | none => .skip
def impl_Near6_1_ann : Ann := fun id => none
def impl_Near6_1_Ls (n : Nat) : Nat → Option (LSpec T) := fun id => none
theorem impl_Near6_1_tie (n : Nat) (a0 : SArr2_Int) (b1 : SArr2_Int) : evF (T := T) (Phi n 27) (impl_Near6_1_Ls n) impl_Near6_1_ann n Try.f125 (sg 125) [vA T 186 a0, vA T 186 b1] impl_Near6_1_dec = impl_Near6_1 n a0 b1 := by kernel_rfl
theorem impl_Near6_1_lo (n : Nat) : LoopsOk (T := T) (Phi n 27) (impl_Near6_1_Ls n) impl_Near6_1_ann n impl_Near6_1_code := loopsOk_all (cs := []) (by kernel_rfl) trivial
theorem impl_Near6_1_ok (n : Nat) : EntOk Try.prog (ents n) (impl_Near6_1_ent n) := by
  intro hs ar y hg h
  replace h : impl_Near6_1_D n ar = some y := h
  unfold impl_Near6_1_D at h
  replace h := ocons_some h
  obtain ⟨a0, r0, rfl, h⟩ := h
  replace h := ocons_some h
  obtain ⟨a1, r1, rfl, h⟩ := h
  replace h := onil_some h
  obtain ⟨rfl, h⟩ := h
  obtain ⟨a0, qh0, h⟩ := obind_some h
  obtain ⟨b1, qh1, h⟩ := obind_some h
  rw [argV_eq ok qh0, argV_eq ok qh1]
  exact call_of (phiE_nat _ _) hs ok mixed Try.func125 (c := impl_Near6_1_code) (by kernel_rfl) (impl_Near6_1_lo n) (by kernel_rfl) (by kernel_rfl) (by kernel_rfl) impl_Near6_1_de ((impl_Near6_1_tie n a0 b1).trans h)
theorem slices_SortFunc_2_int_2_int__impl_Near6_1_cl (n : Nat) (x y : U 186) : PhiE (T := T) (ents n) 28 125 [vA T 186 x, vA T 186 y] some = (impl_Near6_1 n x y).bind fun r => some (impl_Near6_1_enc r) := by kernel_rfl
theorem slices_SortFunc_2_int_2_int__impl_Near6_1_ok (n : Nat) : EntOk Try.prog (ents n) (slices_SortFunc_2_int_2_int__impl_Near6_1_ent n) := by
  intro hs ar y hg h
  replace h : slices_SortFunc_2_int_2_int__impl_Near6_1_D n ar = some y := h
  unfold slices_SortFunc_2_int_2_int__impl_Near6_1_D at h
  split at h
  · obtain ⟨l0, qh0, h⟩ := obind_some h
    rw [argV_eq ok qh0] at hg ⊢
    cases (show [_] = [125] from natsEq_eq hg)
    refine sortL_call ok lay124 (e := 186) (g := 125) (caps := []) (by kernel_rfl) (by kernel_rfl) (by decide) (by kernel_rfl) (by kernel_rfl) (by kernel_rfl) (by kernel_rfl) (fun x y c hc => ?_) h
    have h1 : PhiE (T := T) (ents n) 28 125 [vA T 186 x, vA T 186 y] some = some (impl_Near6_1_enc c) := (slices_SortFunc_2_int_2_int__impl_Near6_1_cl n x y).trans (by rw [show impl_Near6_1 n x y = some c from hc]; rfl)
    obtain ⟨res, h2, h3⟩ := hs _ _ _ _ h1
    cases h3
    exact h2
  · cases h
noncomputable def impl_own_int_code : Code := match Try.f104.body with | some c => c | none => .skip
def impl_own_int_ann : Ann := fun id => none
def impl_own_int_Ls (n : Nat) : Nat → Option (LSpec T) := fun id => none
theorem impl_own_int_tie (n : Nat) (l0 : List Int) : evF (T := T) (Phi n 29) (impl_own_int_Ls n) impl_own_int_ann n Try.f104 (sg 104) [vA T 55 l0] impl_own_int_dec = impl_own_int n l0 := by kernel_rfl
theorem impl_own_int_lo (n : Nat) : LoopsOk (T := T) (Phi n 29) (impl_own_int_Ls n) impl_own_int_ann n impl_own_int_code := loopsOk_all (cs := []) (by kernel_rfl) trivial
theorem impl_own_int_ok (n : Nat) : EntOk Try.prog (ents n) (impl_own_int_ent n) := by
  intro hs ar y hg h
  replace h : impl_own_int_D n ar = some y := h
  unfold impl_own_int_D at h
  replace h := ocons_some h
  obtain ⟨a0, r0, rfl, h⟩ := h
  replace h := onil_some h
  obtain ⟨rfl, h⟩ := h
  obtain ⟨l0, qh0, h⟩ := obind_some h
  rw [argV_eq ok qh0]
  exact call_of (phiE_nat _ _) hs ok mixed Try.func104 (c := impl_own_int_code) (by kernel_rfl) (impl_own_int_lo n) (by kernel_rfl) (by kernel_rfl) (by kernel_rfl) impl_own_int_de ((impl_own_int_tie n l0).trans h)
noncomputable def impl_Near6_code : Code := match Try.f47.body with | some c => c | none => .skip
def impl_Near6_5_sv : List Sv := [.one (.int .i64), .one (.int .i64), .one (.int .i64), .one (.own 3000000 186 false), .one (.arr 181), .one (.int .i64), .one (.int .i64)]
def impl_Near6_5_so : List So := [.arr 186 false]
def impl_Near6_5_emb (c : Int × Int × Int × List SFeature × Int) (x : Int × List SArr2_Int) : EVs T impl_Near6_5_sv × EOs T impl_Near6_5_so := ((c.1, c.2.1, c.2.2.1, (), c.2.2.2.1, c.2.2.2.2, x.1, ()), (x.2, ()))
def impl_Near6_5_prj (y : EVs T impl_Near6_5_sv × EOs T impl_Near6_5_so) : (Int × Int × Int × List SFeature × Int) × (Int × List SArr2_Int) := ((y.1.1, y.1.2.1, y.1.2.2.1, y.1.2.2.2.2.1, y.1.2.2.2.2.2.1), (y.1.2.2.2.2.2.2.1, y.2.1))
def impl_Near6_5_b (n : Nat) {R : Type} (K : Ex → Sm.St T → Option R) (c : Int × Int × Int × List SFeature × Int) (x : Int × List SArr2_Int) (J : (Int × List SArr2_Int) → Option R) : Option R :=
  impl_Near6_L5 n (fun (y0 : List SArr2_Int) => K (.exit 0) (stOf (T := T) [9] [3000000] [.one (.own 3000000 186 false)] [.arr 186 false] ((), ()) (y0, ()))) (fun z0 z1 => J (z0, z1)) c.1 c.2.1 c.2.2.1 c.2.2.2.1 c.2.2.2.2 x.1 x.2
def impl_Near6_5_sp (n : Nat) : LSpec T := mkSpec T ⟨[((.reg 9), 3000000, 186)], [1, 2, 3, 9, 32, 33, 34], [3000000]⟩ impl_Near6_5_sv impl_Near6_5_so (Int × Int × Int × List SFeature × Int) (Int × List SArr2_Int) impl_Near6_5_emb impl_Near6_5_prj (impl_Near6_5_b n)
noncomputable def impl_Near6_5_c : Code := ((loopCodes impl_Near6_code)[0]?).getD .skip
def impl_Near6_14_sv : List Sv := [.one (.own 3000001 3 false), .one (.own 3000002 186 false), .one (.int .i64), .one (.int .i64)]
def impl_Near6_14_so : List So := [.arr 3 false, .arr 186 false]
def impl_Near6_14_emb (c : Int × List SArr2_Int) (x : Int × List Int) : EVs T impl_Near6_14_sv × EOs T impl_Near6_14_so := (((), (), c.1, x.1, ()), (x.2, c.2, ()))
def impl_Near6_14_prj (y : EVs T impl_Near6_14_sv × EOs T impl_Near6_14_so) : (Int × List SArr2_Int) × (Int × List Int) := ((y.1.2.2.1, y.2.2.1), (y.1.2.2.2.1, y.2.1))
def impl_Near6_14_b (n : Nat) {R : Type} (K : Ex → Sm.St T → Option R) (c : Int × List SArr2_Int) (x : Int × List Int) (J : (Int × List Int) → Option R) : Option R :=
  impl_Near6_L14 n (fun (y0 : List Int) => K (.exit 2) (stOf (T := T) [13] [3000001] [.one (.own 3000001 3 false)] [.arr 3 false] ((), ()) (y0, ()))) (fun z0 z1 => J (z0, z1)) c.1 x.1 x.2 c.2
def impl_Near6_14_sp (n : Nat) : LSpec T := mkSpec T ⟨[((.reg 13), 3000001, 3), ((.reg 62), 3000002, 186)], [13, 62, 63, 64], [3000001, 3000002]⟩ impl_Near6_14_sv impl_Near6_14_so (Int × List SArr2_Int) (Int × List Int) impl_Near6_14_emb impl_Near6_14_prj (impl_Near6_14_b n)
noncomputable def impl_Near6_14_c : Code := ((loopCodes impl_Near6_code)[1]?).getD .skip
def impl_Near6_ann : Ann := fun id => bif Nat.beq id 3000005 then some ⟨[((.reg 9), 3000000, 186)], [9], [3000000]⟩ else bif Nat.beq id 5000014 then some ⟨[((.reg 13), 3000001, 3)], [13], [3000001]⟩ else none
def impl_Near6_Ls (n : Nat) : Nat → Option (LSpec T) := fun id => bif Nat.beq id 5 then some (impl_Near6_5_sp n) else bif Nat.beq id 14 then some (impl_Near6_14_sp n) else none
theorem impl_Near6_5_le (n : Nat) : LoopEq (T := T) (Phi n 30) (impl_Near6_Ls n) impl_Near6_ann n impl_Near6_5_c (impl_Near6_5_sp n) := ⟨mkSpec_dec (fun y => rfl), fun c x => by kernel_rfl, fun K J c x => by kernel_rfl⟩
theorem impl_Near6_14_le (n : Nat) : LoopEq (T := T) (Phi n 30) (impl_Near6_Ls n) impl_Near6_ann n impl_Near6_14_c (impl_Near6_14_sp n) := ⟨mkSpec_dec (fun y => rfl), fun c x => by kernel_rfl, fun K J c x => by kernel_rfl⟩
theorem impl_Near6_tie (n : Nat) (c0 : SChart) (x1 : Int) (y2 : Int) (far3 : Int) : evF (T := T) (Phi n 30) (impl_Near6_Ls n) impl_Near6_ann n Try.f47 (sg 47) [vA T 63 c0, vA T 3 x1, vA T 3 y2, vA T 3 far3] impl_Near6_dec = impl_Near6 n c0 x1 y2 far3 := by kernel_rfl
theorem impl_Near6_lo (n : Nat) : LoopsOk (T := T) (Phi n 30) (impl_Near6_Ls n) impl_Near6_ann n impl_Near6_code := loopsOk_all (cs := [impl_Near6_5_c, impl_Near6_14_c]) (by kernel_rfl) ⟨⟨_, by kernel_rfl, impl_Near6_5_le n⟩, ⟨_, by kernel_rfl, impl_Near6_14_le n⟩, trivial⟩
theorem impl_Near6_ok (n : Nat) : EntOk Try.prog (ents n) (impl_Near6_ent n) := by
  intro hs ar y hg h
  replace h : impl_Near6_D n ar = some y := h
  unfold impl_Near6_D at h
  replace h := ocons_some h
  obtain ⟨a0, r0, rfl, h⟩ := h
  replace h := ocons_some h
  obtain ⟨a1, r1, rfl, h⟩ := h
  replace h := ocons_some h
  obtain ⟨a2, r2, rfl, h⟩ := h
  replace h := ocons_some h
  obtain ⟨a3, r3, rfl, h⟩ := h
  replace h := onil_some h
  obtain ⟨rfl, h⟩ := h
  obtain ⟨c0, qh0, h⟩ := obind_some h
  obtain ⟨x1, qh1, h⟩ := obind_some h
  obtain ⟨y2, qh2, h⟩ := obind_some h
  obtain ⟨far3, qh3, h⟩ := obind_some h
  rw [argV_eq ok qh0, argV_eq ok qh1, argV_eq ok qh2, argV_eq ok qh3]
  exact call_of (phiE_nat _ _) hs ok mixed Try.func47 (c := impl_Near6_code) (by kernel_rfl) (impl_Near6_lo n) (by kernel_rfl) (by kernel_rfl) (by kernel_rfl) impl_Near6_de ((impl_Near6_tie n c0 x1 y2 far3).trans h)
noncomputable def laws_eqIntS_code : Code := match Try.f37.body with | some c => c | none => .skip
def laws_eqIntS_4_sv : List Sv := [.one (.arr 3), .one (.arr 3), .one (.int .i64)]
def laws_eqIntS_4_so : List So := []
def laws_eqIntS_4_emb (c : List Int × List Int) (x : Int) : EVs T laws_eqIntS_4_sv × EOs T laws_eqIntS_4_so := ((c.1, c.2, x, ()), ())
def laws_eqIntS_4_prj (y : EVs T laws_eqIntS_4_sv × EOs T laws_eqIntS_4_so) : (List Int × List Int) × Int := ((y.1.1, y.1.2.1), (y.1.2.2.1))
def laws_eqIntS_4_b (n : Nat) {R : Type} (K : Ex → Sm.St T → Option R) (c : List Int × List Int) (x : Int) (J : Int → Option R) : Option R :=
  laws_eqIntS_L4 n (K (.exit 0) (stOf (T := T) [] [] [] [] () ())) (fun (y0 : Bool) => K .ret (stOf (T := T) [4] [] [.one (.bool)] [] (y0, ()) ())) J c.1 c.2 x
def laws_eqIntS_4_sp (n : Nat) : LSpec T := mkSpec T ⟨[], [0, 1, 5], []⟩ laws_eqIntS_4_sv laws_eqIntS_4_so (List Int × List Int) (Int) laws_eqIntS_4_emb laws_eqIntS_4_prj (laws_eqIntS_4_b n)
noncomputable def laws_eqIntS_4_c : Code := ((loopCodes laws_eqIntS_code)[0]?).getD .skip
def laws_eqIntS_ann : Ann := fun id => bif Nat.beq id 3000004 then some ⟨[], [], []⟩ else bif Nat.beq id 2000004 then some ⟨[], [4], []⟩ else none
def laws_eqIntS_Ls (n : Nat) : Nat → Option (LSpec T) := fun id => bif Nat.beq id 4 then some (laws_eqIntS_4_sp n) else none
theorem laws_eqIntS_4_le (n : Nat) : LoopEq (T := T) (Phi n 31) (laws_eqIntS_Ls n) laws_eqIntS_ann n laws_eqIntS_4_c (laws_eqIntS_4_sp n) := ⟨mkSpec_dec (fun y => rfl), fun c x => by kernel_rfl, fun K J c x => by kernel_rfl⟩
theorem laws_eqIntS_tie (n : Nat) (a0 : List Int) (b1 : List Int) : evF (T := T) (Phi n 31) (laws_eqIntS_Ls n) laws_eqIntS_ann n Try.f37 (sg 37) [vA T 55 a0, vA T 55 b1] laws_eqIntS_dec = laws_eqIntS n a0 b1 := by kernel_rfl
theorem laws_eqIntS_lo (n : Nat) : LoopsOk (T := T) (Phi n 31) (laws_eqIntS_Ls n) laws_eqIntS_ann n laws_eqIntS_code := loopsOk_all (cs := [laws_eqIntS_4_c]) (by kernel_rfl) ⟨⟨_, by kernel_rfl, laws_eqIntS_4_le n⟩, trivial⟩
theorem laws_eqIntS_ok (n : Nat) : EntOk Try.prog (ents n) (laws_eqIntS_ent n) := by
  intro hs ar y hg h
  replace h : laws_eqIntS_D n ar = some y := h
  unfold laws_eqIntS_D at h
  replace h := ocons_some h
  obtain ⟨a0, r0, rfl, h⟩ := h
  replace h := ocons_some h
  obtain ⟨a1, r1, rfl, h⟩ := h
  replace h := onil_some h
  obtain ⟨rfl, h⟩ := h
  obtain ⟨a0, qh0, h⟩ := obind_some h
  obtain ⟨b1, qh1, h⟩ := obind_some h
  rw [argV_eq ok qh0, argV_eq ok qh1]
  exact call_of (phiE_nat _ _) hs ok mixed Try.func37 (c := laws_eqIntS_code) (by kernel_rfl) (laws_eqIntS_lo n) (by kernel_rfl) (by kernel_rfl) (by kernel_rfl) laws_eqIntS_de ((laws_eqIntS_tie n a0 b1).trans h)
noncomputable def laws_eqFeature_code : Code := match Try.f193.body with | some c => c | none => .skip
def laws_eqFeature_ann : Ann := fun id => none
def laws_eqFeature_Ls (n : Nat) : Nat → Option (LSpec T) := fun id => none
theorem laws_eqFeature_tie (n : Nat) (a0 : SFeature) (b1 : SFeature) : evF (T := T) (Phi n 32) (laws_eqFeature_Ls n) laws_eqFeature_ann n Try.f193 (sg 193) [vA T 181 a0, vA T 181 b1] laws_eqFeature_dec = laws_eqFeature n a0 b1 := by kernel_rfl
theorem laws_eqFeature_lo (n : Nat) : LoopsOk (T := T) (Phi n 32) (laws_eqFeature_Ls n) laws_eqFeature_ann n laws_eqFeature_code := loopsOk_all (cs := []) (by kernel_rfl) trivial
theorem laws_eqFeature_ok (n : Nat) : EntOk Try.prog (ents n) (laws_eqFeature_ent n) := by
  intro hs ar y hg h
  replace h : laws_eqFeature_D n ar = some y := h
  unfold laws_eqFeature_D at h
  replace h := ocons_some h
  obtain ⟨a0, r0, rfl, h⟩ := h
  replace h := ocons_some h
  obtain ⟨a1, r1, rfl, h⟩ := h
  replace h := onil_some h
  obtain ⟨rfl, h⟩ := h
  obtain ⟨a0, qh0, h⟩ := obind_some h
  obtain ⟨b1, qh1, h⟩ := obind_some h
  rw [argV_eq ok qh0, argV_eq ok qh1]
  exact call_of (phiE_nat _ _) hs ok mixed Try.func193 (c := laws_eqFeature_code) (by kernel_rfl) (laws_eqFeature_lo n) (by kernel_rfl) (by kernel_rfl) (by kernel_rfl) laws_eqFeature_de ((laws_eqFeature_tie n a0 b1).trans h)
noncomputable def laws_eqFeatureS_code : Code := match Try.f114.body with | some c => c | none => .skip
def laws_eqFeatureS_4_sv : List Sv := [.one (.arr 181), .one (.arr 181), .one (.int .i64)]
def laws_eqFeatureS_4_so : List So := []
def laws_eqFeatureS_4_emb (c : List SFeature × List SFeature) (x : Int) : EVs T laws_eqFeatureS_4_sv × EOs T laws_eqFeatureS_4_so := ((c.1, c.2, x, ()), ())
def laws_eqFeatureS_4_prj (y : EVs T laws_eqFeatureS_4_sv × EOs T laws_eqFeatureS_4_so) : (List SFeature × List SFeature) × Int := ((y.1.1, y.1.2.1), (y.1.2.2.1))
def laws_eqFeatureS_4_b (n : Nat) {R : Type} (K : Ex → Sm.St T → Option R) (c : List SFeature × List SFeature) (x : Int) (J : Int → Option R) : Option R :=
  laws_eqFeatureS_L4 n (K (.exit 0) (stOf (T := T) [] [] [] [] () ())) (fun (y0 : Bool) => K .ret (stOf (T := T) [4] [] [.one (.bool)] [] (y0, ()) ())) J c.1 c.2 x
def laws_eqFeatureS_4_sp (n : Nat) : LSpec T := mkSpec T ⟨[], [0, 1, 5], []⟩ laws_eqFeatureS_4_sv laws_eqFeatureS_4_so (List SFeature × List SFeature) (Int) laws_eqFeatureS_4_emb laws_eqFeatureS_4_prj (laws_eqFeatureS_4_b n)
noncomputable def laws_eqFeatureS_4_c : Code := ((loopCodes laws_eqFeatureS_code)[0]?).getD .skip
def laws_eqFeatureS_ann : Ann := fun id => bif Nat.beq id 3000004 then some ⟨[], [], []⟩ else bif Nat.beq id 2000004 then some ⟨[], [4], []⟩ else none
def laws_eqFeatureS_Ls (n : Nat) : Nat → Option (LSpec T) := fun id => bif Nat.beq id 4 then some (laws_eqFeatureS_4_sp n) else none
theorem laws_eqFeatureS_4_le (n : Nat) : LoopEq (T := T) (Phi n 33) (laws_eqFeatureS_Ls n) laws_eqFeatureS_ann n laws_eqFeatureS_4_c (laws_eqFeatureS_4_sp n) := ⟨mkSpec_dec (fun y => rfl), fun c x => by kernel_rfl, fun K J c x => by kernel_rfl⟩
theorem laws_eqFeatureS_tie (n : Nat) (a0 : List SFeature) (b1 : List SFeature) : evF (T := T) (Phi n 33) (laws_eqFeatureS_Ls n) laws_eqFeatureS_ann n Try.f114 (sg 114) [vA T 61 a0, vA T 61 b1] laws_eqFeatureS_dec = laws_eqFeatureS n a0 b1 := by kernel_rfl
theorem laws_eqFeatureS_lo (n : Nat) : LoopsOk (T := T) (Phi n 33) (laws_eqFeatureS_Ls n) laws_eqFeatureS_ann n laws_eqFeatureS_code := loopsOk_all (cs := [laws_eqFeatureS_4_c]) (by kernel_rfl) ⟨⟨_, by kernel_rfl, laws_eqFeatureS_4_le n⟩, trivial⟩
theorem laws_eqFeatureS_ok (n : Nat) : EntOk Try.prog (ents n) (laws_eqFeatureS_ent n) := by
  intro hs ar y hg h
  replace h : laws_eqFeatureS_D n ar = some y := h
  unfold laws_eqFeatureS_D at h
  replace h := ocons_some h
  obtain ⟨a0, r0, rfl, h⟩ := h
  replace h := ocons_some h
  obtain ⟨a1, r1, rfl, h⟩ := h
  replace h := onil_some h
  obtain ⟨rfl, h⟩ := h
  obtain ⟨a0, qh0, h⟩ := obind_some h
  obtain ⟨b1, qh1, h⟩ := obind_some h
  rw [argV_eq ok qh0, argV_eq ok qh1]
  exact call_of (phiE_nat _ _) hs ok mixed Try.func114 (c := laws_eqFeatureS_code) (by kernel_rfl) (laws_eqFeatureS_lo n) (by kernel_rfl) (by kernel_rfl) (by kernel_rfl) laws_eqFeatureS_de ((laws_eqFeatureS_tie n a0 b1).trans h)
noncomputable def laws_eqChart_code : Code := match Try.f38.body with | some c => c | none => .skip
def laws_eqChart_ann : Ann := fun id => none
def laws_eqChart_Ls (n : Nat) : Nat → Option (LSpec T) := fun id => none
theorem laws_eqChart_tie (n : Nat) (a0 : SChart) (b1 : SChart) : evF (T := T) (Phi n 34) (laws_eqChart_Ls n) laws_eqChart_ann n Try.f38 (sg 38) [vA T 63 a0, vA T 63 b1] laws_eqChart_dec = laws_eqChart n a0 b1 := by kernel_rfl
theorem laws_eqChart_lo (n : Nat) : LoopsOk (T := T) (Phi n 34) (laws_eqChart_Ls n) laws_eqChart_ann n laws_eqChart_code := loopsOk_all (cs := []) (by kernel_rfl) trivial
theorem laws_eqChart_ok (n : Nat) : EntOk Try.prog (ents n) (laws_eqChart_ent n) := by
  intro hs ar y hg h
  replace h : laws_eqChart_D n ar = some y := h
  unfold laws_eqChart_D at h
  replace h := ocons_some h
  obtain ⟨a0, r0, rfl, h⟩ := h
  replace h := ocons_some h
  obtain ⟨a1, r1, rfl, h⟩ := h
  replace h := onil_some h
  obtain ⟨rfl, h⟩ := h
  obtain ⟨a0, qh0, h⟩ := obind_some h
  obtain ⟨b1, qh1, h⟩ := obind_some h
  rw [argV_eq ok qh0, argV_eq ok qh1]
  exact call_of (phiE_nat _ _) hs ok mixed Try.func38 (c := laws_eqChart_code) (by kernel_rfl) (laws_eqChart_lo n) (by kernel_rfl) (by kernel_rfl) (by kernel_rfl) laws_eqChart_de ((laws_eqChart_tie n a0 b1).trans h)
noncomputable def laws_markIntS_code : Code := match Try.f40.body with | some c => c | none => .skip
def laws_markIntS_2_sv : List Sv := [.one (.own 4503599627370496 3 false), .one (.int .i64), .one (.int .i64)]
def laws_markIntS_2_so : List So := [.arr 3 true]
def laws_markIntS_2_emb (c : Unit) (x : Int × Int × List Int) : EVs T laws_markIntS_2_sv × EOs T laws_markIntS_2_so := (((), x.1, x.2.1, ()), (x.2.2, ()))
def laws_markIntS_2_prj (y : EVs T laws_markIntS_2_sv × EOs T laws_markIntS_2_so) : Unit × (Int × Int × List Int) := ((), (y.1.2.1, y.1.2.2.1, y.2.1))
def laws_markIntS_2_b (n : Nat) {R : Type} (K : Ex → Sm.St T → Option R) (c : Unit) (x : Int × Int × List Int) (J : (Int × Int × List Int) → Option R) : Option R :=
  laws_markIntS_L2 n (fun (y0 : Int) (y1 : List Int) => K (.exit 0) (stOf (T := T) [1] [4503599627370496] [.one (.int .i64)] [.arr 3 true] (y0, ()) (y1, ()))) (fun z0 z1 z2 => J (z0, z1, z2)) x.1 x.2.1 x.2.2
def laws_markIntS_2_sp (n : Nat) : LSpec T := mkSpec T ⟨[], [0, 1, 5], [4503599627370496]⟩ laws_markIntS_2_sv laws_markIntS_2_so (Unit) (Int × Int × List Int) laws_markIntS_2_emb laws_markIntS_2_prj (laws_markIntS_2_b n)
noncomputable def laws_markIntS_2_c : Code := ((loopCodes laws_markIntS_code)[0]?).getD .skip
def laws_markIntS_ann : Ann := fun id => bif Nat.beq id 3000002 then some ⟨[], [1], [4503599627370496]⟩ else none
def laws_markIntS_Ls (n : Nat) : Nat → Option (LSpec T) := fun id => bif Nat.beq id 2 then some (laws_markIntS_2_sp n) else none
theorem laws_markIntS_2_le (n : Nat) : LoopEq (T := T) (Phi n 35) (laws_markIntS_Ls n) laws_markIntS_ann n laws_markIntS_2_c (laws_markIntS_2_sp n) := ⟨mkSpec_dec (fun y => rfl), fun c x => by kernel_rfl, fun K J c x => by kernel_rfl⟩
theorem laws_markIntS_tie (n : Nat) (a0 : List Int) (k1 : Int) : evF (T := T) (Phi n 35) (laws_markIntS_Ls n) laws_markIntS_ann n Try.f40 (sg 40) [vA T 55 a0, vA T 3 k1] laws_markIntS_dec = laws_markIntS n a0 k1 := by kernel_rfl
theorem laws_markIntS_lo (n : Nat) : LoopsOk (T := T) (Phi n 35) (laws_markIntS_Ls n) laws_markIntS_ann n laws_markIntS_code := loopsOk_all (cs := [laws_markIntS_2_c]) (by kernel_rfl) ⟨⟨_, by kernel_rfl, laws_markIntS_2_le n⟩, trivial⟩
theorem laws_markIntS_ok (n : Nat) : EntOk Try.prog (ents n) (laws_markIntS_ent n) := by
  intro hs ar y hg h
  replace h : laws_markIntS_D n ar = some y := h
  unfold laws_markIntS_D at h
  replace h := ocons_some h
  obtain ⟨a0, r0, rfl, h⟩ := h
  replace h := ocons_some h
  obtain ⟨a1, r1, rfl, h⟩ := h
  replace h := onil_some h
  obtain ⟨rfl, h⟩ := h
  obtain ⟨a0, qh0, h⟩ := obind_some h
  obtain ⟨k1, qh1, h⟩ := obind_some h
  rw [argV_eq ok qh0, argV_eq ok qh1]
  exact call_of (phiE_nat _ _) hs ok mixed Try.func40 (c := laws_markIntS_code) (by kernel_rfl) (laws_markIntS_lo n) (by kernel_rfl) (by kernel_rfl) (by kernel_rfl) laws_markIntS_de ((laws_markIntS_tie n a0 k1).trans h)
noncomputable def laws_markText_code : Code := match Try.f194.body with | some c => c | none => .skip
def laws_markText_4_sv : List Sv := [.one (.int .i64), .one (.str)]
def laws_markText_4_so : List So := []
def laws_markText_4_emb (c : Unit) (x : Int × ByteArray) : EVs T laws_markText_4_sv × EOs T laws_markText_4_so := ((x.1, x.2, ()), ())
def laws_markText_4_prj (y : EVs T laws_markText_4_sv × EOs T laws_markText_4_so) : Unit × (Int × ByteArray) := ((), (y.1.1, y.1.2.1))
def laws_markText_4_b (n : Nat) {R : Type} (K : Ex → Sm.St T → Option R) (c : Unit) (x : Int × ByteArray) (J : (Int × ByteArray) → Option R) : Option R :=
  laws_markText_L4 n (fun (y0 : ByteArray) => K (.exit 0) (stOf (T := T) [3] [] [.one (.str)] [] (y0, ()) ())) (fun z0 z1 => J (z0, z1)) x.1 x.2
def laws_markText_4_sp (n : Nat) : LSpec T := mkSpec T ⟨[], [0, 3], []⟩ laws_markText_4_sv laws_markText_4_so (Unit) (Int × ByteArray) laws_markText_4_emb laws_markText_4_prj (laws_markText_4_b n)
noncomputable def laws_markText_4_c : Code := ((loopCodes laws_markText_code)[0]?).getD .skip
def laws_markText_ann : Ann := fun id => bif Nat.beq id 3000004 then some ⟨[], [3], []⟩ else none
def laws_markText_Ls (n : Nat) : Nat → Option (LSpec T) := fun id => bif Nat.beq id 4 then some (laws_markText_4_sp n) else none
theorem laws_markText_4_le (n : Nat) : LoopEq (T := T) (Phi n 36) (laws_markText_Ls n) laws_markText_ann n laws_markText_4_c (laws_markText_4_sp n) := ⟨mkSpec_dec (fun y => rfl), fun c x => by kernel_rfl, fun K J c x => by kernel_rfl⟩
theorem laws_markText_tie (n : Nat) (k0 : Int) : evF (T := T) (Phi n 36) (laws_markText_Ls n) laws_markText_ann n Try.f194 (sg 194) [vA T 3 k0] laws_markText_dec = laws_markText n k0 := by kernel_rfl
theorem laws_markText_lo (n : Nat) : LoopsOk (T := T) (Phi n 36) (laws_markText_Ls n) laws_markText_ann n laws_markText_code := loopsOk_all (cs := [laws_markText_4_c]) (by kernel_rfl) ⟨⟨_, by kernel_rfl, laws_markText_4_le n⟩, trivial⟩
theorem laws_markText_ok (n : Nat) : EntOk Try.prog (ents n) (laws_markText_ent n) := by
  intro hs ar y hg h
  replace h : laws_markText_D n ar = some y := h
  unfold laws_markText_D at h
  replace h := ocons_some h
  obtain ⟨a0, r0, rfl, h⟩ := h
  replace h := onil_some h
  obtain ⟨rfl, h⟩ := h
  obtain ⟨k0, qh0, h⟩ := obind_some h
  rw [argV_eq ok qh0]
  exact call_of (phiE_nat _ _) hs ok mixed Try.func194 (c := laws_markText_code) (by kernel_rfl) (laws_markText_lo n) (by kernel_rfl) (by kernel_rfl) (by kernel_rfl) laws_markText_de ((laws_markText_tie n k0).trans h)
noncomputable def laws_markFeatureS_code : Code := match Try.f115.body with | some c => c | none => .skip
def laws_markFeatureS_2_sv : List Sv := [.one (.own 4503599627370496 181 false), .one (.int .i64), .one (.int .i64)]
def laws_markFeatureS_2_so : List So := [.arr 181 true]
def laws_markFeatureS_2_emb (c : Unit) (x : Int × Int × List SFeature) : EVs T laws_markFeatureS_2_sv × EOs T laws_markFeatureS_2_so := (((), x.1, x.2.1, ()), (x.2.2, ()))
def laws_markFeatureS_2_prj (y : EVs T laws_markFeatureS_2_sv × EOs T laws_markFeatureS_2_so) : Unit × (Int × Int × List SFeature) := ((), (y.1.2.1, y.1.2.2.1, y.2.1))
def laws_markFeatureS_2_b (n : Nat) {R : Type} (K : Ex → Sm.St T → Option R) (c : Unit) (x : Int × Int × List SFeature) (J : (Int × Int × List SFeature) → Option R) : Option R :=
  laws_markFeatureS_L2 n (fun (y0 : Int) (y1 : List SFeature) => K (.exit 0) (stOf (T := T) [1] [4503599627370496] [.one (.int .i64)] [.arr 181 true] (y0, ()) (y1, ()))) (fun z0 z1 z2 => J (z0, z1, z2)) x.1 x.2.1 x.2.2
def laws_markFeatureS_2_sp (n : Nat) : LSpec T := mkSpec T ⟨[], [0, 1, 5], [4503599627370496]⟩ laws_markFeatureS_2_sv laws_markFeatureS_2_so (Unit) (Int × Int × List SFeature) laws_markFeatureS_2_emb laws_markFeatureS_2_prj (laws_markFeatureS_2_b n)
noncomputable def laws_markFeatureS_2_c : Code := ((loopCodes laws_markFeatureS_code)[0]?).getD .skip
def laws_markFeatureS_ann : Ann := fun id => bif Nat.beq id 3000002 then some ⟨[], [1], [4503599627370496]⟩ else none
def laws_markFeatureS_Ls (n : Nat) : Nat → Option (LSpec T) := fun id => bif Nat.beq id 2 then some (laws_markFeatureS_2_sp n) else none
theorem laws_markFeatureS_2_le (n : Nat) : LoopEq (T := T) (Phi n 37) (laws_markFeatureS_Ls n) laws_markFeatureS_ann n laws_markFeatureS_2_c (laws_markFeatureS_2_sp n) := ⟨mkSpec_dec (fun y => rfl), fun c x => by kernel_rfl, fun K J c x => by kernel_rfl⟩
theorem laws_markFeatureS_tie (n : Nat) (a0 : List SFeature) (k1 : Int) : evF (T := T) (Phi n 37) (laws_markFeatureS_Ls n) laws_markFeatureS_ann n Try.f115 (sg 115) [vA T 61 a0, vA T 3 k1] laws_markFeatureS_dec = laws_markFeatureS n a0 k1 := by kernel_rfl
theorem laws_markFeatureS_lo (n : Nat) : LoopsOk (T := T) (Phi n 37) (laws_markFeatureS_Ls n) laws_markFeatureS_ann n laws_markFeatureS_code := loopsOk_all (cs := [laws_markFeatureS_2_c]) (by kernel_rfl) ⟨⟨_, by kernel_rfl, laws_markFeatureS_2_le n⟩, trivial⟩
theorem laws_markFeatureS_ok (n : Nat) : EntOk Try.prog (ents n) (laws_markFeatureS_ent n) := by
  intro hs ar y hg h
  replace h : laws_markFeatureS_D n ar = some y := h
  unfold laws_markFeatureS_D at h
  replace h := ocons_some h
  obtain ⟨a0, r0, rfl, h⟩ := h
  replace h := ocons_some h
  obtain ⟨a1, r1, rfl, h⟩ := h
  replace h := onil_some h
  obtain ⟨rfl, h⟩ := h
  obtain ⟨a0, qh0, h⟩ := obind_some h
  obtain ⟨k1, qh1, h⟩ := obind_some h
  rw [argV_eq ok qh0, argV_eq ok qh1]
  exact call_of (phiE_nat _ _) hs ok mixed Try.func115 (c := laws_markFeatureS_code) (by kernel_rfl) (laws_markFeatureS_lo n) (by kernel_rfl) (by kernel_rfl) (by kernel_rfl) laws_markFeatureS_de ((laws_markFeatureS_tie n a0 k1).trans h)
noncomputable def laws_markChart_code : Code := match Try.f39.body with | some c => c | none => .skip
def laws_markChart_ann : Ann := fun id => none
def laws_markChart_Ls (n : Nat) : Nat → Option (LSpec T) := fun id => none
theorem laws_markChart_tie (n : Nat) (a0 : SChart) (k1 : Int) : evF (T := T) (Phi n 38) (laws_markChart_Ls n) laws_markChart_ann n Try.f39 (sg 39) [vA T 63 a0, vA T 3 k1] laws_markChart_dec = laws_markChart n a0 k1 := by kernel_rfl
theorem laws_markChart_lo (n : Nat) : LoopsOk (T := T) (Phi n 38) (laws_markChart_Ls n) laws_markChart_ann n laws_markChart_code := loopsOk_all (cs := []) (by kernel_rfl) trivial
theorem laws_markChart_ok (n : Nat) : EntOk Try.prog (ents n) (laws_markChart_ent n) := by
  intro hs ar y hg h
  replace h : laws_markChart_D n ar = some y := h
  unfold laws_markChart_D at h
  replace h := ocons_some h
  obtain ⟨a0, r0, rfl, h⟩ := h
  replace h := ocons_some h
  obtain ⟨a1, r1, rfl, h⟩ := h
  replace h := onil_some h
  obtain ⟨rfl, h⟩ := h
  obtain ⟨a0, qh0, h⟩ := obind_some h
  obtain ⟨k1, qh1, h⟩ := obind_some h
  rw [argV_eq ok qh0, argV_eq ok qh1]
  exact call_of (phiE_nat _ _) hs ok mixed Try.func39 (c := laws_markChart_code) (by kernel_rfl) (laws_markChart_lo n) (by kernel_rfl) (by kernel_rfl) (by kernel_rfl) laws_markChart_de ((laws_markChart_tie n a0 k1).trans h)
noncomputable def laws_heldIntS_code : Code := match Try.f41.body with | some c => c | none => .skip
def laws_heldIntS_2_sv : List Sv := [.one (.arr 3), .one (.int .i64), .one (.int .i64)]
def laws_heldIntS_2_so : List So := []
def laws_heldIntS_2_emb (c : List Int) (x : Int × Int) : EVs T laws_heldIntS_2_sv × EOs T laws_heldIntS_2_so := ((c, x.1, x.2, ()), ())
def laws_heldIntS_2_prj (y : EVs T laws_heldIntS_2_sv × EOs T laws_heldIntS_2_so) : List Int × (Int × Int) := ((y.1.1), (y.1.2.1, y.1.2.2.1))
def laws_heldIntS_2_b (n : Nat) {R : Type} (K : Ex → Sm.St T → Option R) (c : List Int) (x : Int × Int) (J : (Int × Int) → Option R) : Option R :=
  laws_heldIntS_L2 n (fun (y0 : Int) => K (.exit 0) (stOf (T := T) [1] [] [.one (.int .i64)] [] (y0, ()) ())) (fun (y0 : Int) => K .ret (stOf (T := T) [4] [] [.one (.int .i64)] [] (y0, ()) ())) (fun z0 z1 => J (z0, z1)) c x.1 x.2
def laws_heldIntS_2_sp (n : Nat) : LSpec T := mkSpec T ⟨[], [0, 1, 5], []⟩ laws_heldIntS_2_sv laws_heldIntS_2_so (List Int) (Int × Int) laws_heldIntS_2_emb laws_heldIntS_2_prj (laws_heldIntS_2_b n)
noncomputable def laws_heldIntS_2_c : Code := ((loopCodes laws_heldIntS_code)[0]?).getD .skip
def laws_heldIntS_ann : Ann := fun id => bif Nat.beq id 3000002 then some ⟨[], [1], []⟩ else bif Nat.beq id 2000002 then some ⟨[], [4], []⟩ else none
def laws_heldIntS_Ls (n : Nat) : Nat → Option (LSpec T) := fun id => bif Nat.beq id 2 then some (laws_heldIntS_2_sp n) else none
theorem laws_heldIntS_2_le (n : Nat) : LoopEq (T := T) (Phi n 39) (laws_heldIntS_Ls n) laws_heldIntS_ann n laws_heldIntS_2_c (laws_heldIntS_2_sp n) := ⟨mkSpec_dec (fun y => rfl), fun c x => by kernel_rfl, fun K J c x => by kernel_rfl⟩
theorem laws_heldIntS_tie (n : Nat) (a0 : List Int) (k1 : Int) : evF (T := T) (Phi n 39) (laws_heldIntS_Ls n) laws_heldIntS_ann n Try.f41 (sg 41) [vA T 55 a0, vA T 3 k1] laws_heldIntS_dec = laws_heldIntS n a0 k1 := by kernel_rfl
theorem laws_heldIntS_lo (n : Nat) : LoopsOk (T := T) (Phi n 39) (laws_heldIntS_Ls n) laws_heldIntS_ann n laws_heldIntS_code := loopsOk_all (cs := [laws_heldIntS_2_c]) (by kernel_rfl) ⟨⟨_, by kernel_rfl, laws_heldIntS_2_le n⟩, trivial⟩
theorem laws_heldIntS_ok (n : Nat) : EntOk Try.prog (ents n) (laws_heldIntS_ent n) := by
  intro hs ar y hg h
  replace h : laws_heldIntS_D n ar = some y := h
  unfold laws_heldIntS_D at h
  replace h := ocons_some h
  obtain ⟨a0, r0, rfl, h⟩ := h
  replace h := ocons_some h
  obtain ⟨a1, r1, rfl, h⟩ := h
  replace h := onil_some h
  obtain ⟨rfl, h⟩ := h
  obtain ⟨a0, qh0, h⟩ := obind_some h
  obtain ⟨k1, qh1, h⟩ := obind_some h
  rw [argV_eq ok qh0, argV_eq ok qh1]
  exact call_of (phiE_nat _ _) hs ok mixed Try.func41 (c := laws_heldIntS_code) (by kernel_rfl) (laws_heldIntS_lo n) (by kernel_rfl) (by kernel_rfl) (by kernel_rfl) laws_heldIntS_de ((laws_heldIntS_tie n a0 k1).trans h)
noncomputable def laws_FnExactNear6_code : Code := match Try.f7.body with | some c => c | none => .skip
def laws_FnExactNear6_ann : Ann := fun id => none
def laws_FnExactNear6_Ls (n : Nat) : Nat → Option (LSpec T) := fun id => none
theorem laws_FnExactNear6_tie (n : Nat) (aC0 : SChart) (aX1 : Int) (aY2 : Int) (aFar3 : Int) : evF (T := T) (Phi n 40) (laws_FnExactNear6_Ls n) laws_FnExactNear6_ann n Try.f7 (sg 7) [vA T 58 aC0, vA T 3 aX1, vA T 3 aY2, vA T 3 aFar3] laws_FnExactNear6_dec = laws_FnExactNear6 n aC0 aX1 aY2 aFar3 := by kernel_rfl
theorem laws_FnExactNear6_lo (n : Nat) : LoopsOk (T := T) (Phi n 40) (laws_FnExactNear6_Ls n) laws_FnExactNear6_ann n laws_FnExactNear6_code := loopsOk_all (cs := []) (by kernel_rfl) trivial
theorem laws_FnExactNear6_ok (n : Nat) : EntOk Try.prog (ents n) (laws_FnExactNear6_ent n) := by
  intro hs ar y hg h
  replace h : laws_FnExactNear6_D n ar = some y := h
  unfold laws_FnExactNear6_D at h
  replace h := ocons_some h
  obtain ⟨a0, r0, rfl, h⟩ := h
  replace h := ocons_some h
  obtain ⟨a1, r1, rfl, h⟩ := h
  replace h := ocons_some h
  obtain ⟨a2, r2, rfl, h⟩ := h
  replace h := ocons_some h
  obtain ⟨a3, r3, rfl, h⟩ := h
  replace h := onil_some h
  obtain ⟨rfl, h⟩ := h
  obtain ⟨aC0, qh0, h⟩ := obind_some h
  obtain ⟨aX1, qh1, h⟩ := obind_some h
  obtain ⟨aY2, qh2, h⟩ := obind_some h
  obtain ⟨aFar3, qh3, h⟩ := obind_some h
  rw [argV_eq ok qh0, argV_eq ok qh1, argV_eq ok qh2, argV_eq ok qh3]
  exact call_of (phiE_nat _ _) hs ok mixed Try.func7 (c := laws_FnExactNear6_code) (by kernel_rfl) (laws_FnExactNear6_lo n) (by kernel_rfl) (by kernel_rfl) (by kernel_rfl) laws_FnExactNear6_de ((laws_FnExactNear6_tie n aC0 aX1 aY2 aFar3).trans h)
theorem entsOk (n : Nat) : EntsOk Try.prog (ents n) (ents n) := ⟨laws_szIntS_ok n, laws_szFeature_ok n, laws_szFeatureS_ok n, laws_szChart_ok n, laws_toIntS_ok n, laws_toFeature_ok n, laws_toFeatureS_ok n, laws_toChart_ok n, spec_l1In_ok n, spec_l6Depth_ok n, spec_l6Place_ok n, spec_l6Feature_ok n, spec_ChartOk_ok n, spec_l3Size_ok n, spec_Near6_ok n, impl_in_ok n, impl_all_1_ok n, slices_IndexFunc_int_int__impl_all_1_ok n, slices_ContainsFunc_int_int__impl_all_1_ok n, impl_all_ok n, impl_Chart_place_ok n, impl_Chart_featureOk_ok n, impl_ChartOk_ok n, impl_size_ok n, cmp_isNaN_int_ok n, cmp_Compare_int_ok n, slices_Compare_int_int_ok n, impl_Near6_1_ok n, slices_SortFunc_2_int_2_int__impl_Near6_1_ok n, impl_own_int_ok n, impl_Near6_ok n, laws_eqIntS_ok n, laws_eqFeature_ok n, laws_eqFeatureS_ok n, laws_eqChart_ok n, laws_markIntS_ok n, laws_markText_ok n, laws_markFeatureS_ok n, laws_markChart_ok n, laws_heldIntS_ok n, laws_FnExactNear6_ok n, trivial⟩
theorem sem (n i : Nat) : SemOk (Phi n i) (CallOk Try.prog T) := phiE_ok (entsOk n) i
end Go.Sm.B7
