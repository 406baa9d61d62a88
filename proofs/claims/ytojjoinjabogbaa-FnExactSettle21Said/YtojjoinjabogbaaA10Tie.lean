import Derived.Test.YtojjoinjabogbaaA10Tb
import Derived.KernelRfl
/- Each function's code computes what the plain function computes. -/
set_option linter.unusedSimpArgs false
set_option linter.deprecated false
set_option linter.unusedSectionVars false
set_option linter.unusedVariables false
set_option maxRecDepth 100000
open Go Go.Proofs
noncomputable section
namespace Go.Sm.A10
/-- By recursors, and of a greater height than all of the functions: the kernel takes these apart first. -/
def obind {α β : Type} (o : Option α) (f : α → Option β) : Option β := let _ := @laws_FnExactSettle21; Option.rec (motive := fun _ => Option β) none (fun a => f a) o
theorem obind_some {α β : Type} {o : Option α} {f : α → Option β} {y : β} (h : obind o f = some y) : ∃ a, o = some a ∧ f a = some y := by
  cases o with
  | none => cases h
  | some a => exact ⟨a, rfl, h⟩
def ocons {β : Type} (l : List (A T)) (f : A T → List (A T) → Option β) : Option β := let _ := @laws_FnExactSettle21; List.rec (motive := fun _ => Option β) none (fun a r _ => f a r) l
theorem ocons_some {β : Type} {l : List (A T)} {f : A T → List (A T) → Option β} {y : β} (h : ocons l f = some y) : ∃ a r, l = a :: r ∧ f a r = some y := by
  cases l with
  | nil => cases h
  | cons a r => exact ⟨a, r, rfl, h⟩
def onil {β : Type} (l : List (A T)) (x : Option β) : Option β := let _ := @laws_FnExactSettle21; List.rec (motive := fun _ => Option β) x (fun _ _ _ => none) l
theorem onil_some {β : Type} {l : List (A T)} {x : Option β} {y : β} (h : onil l x = some y) : l = [] ∧ x = some y := by
  cases l with
  | nil => exact ⟨rfl, h⟩
  | cons a r => cases h
def laws_szStringS_dec (res : Res T) : Option Int := match res.rets, res.outs with
  | [a0], [] => (retV (T := T) 3 a0).bind fun r0 => some (r0)
  | _, _ => none
def laws_szStringS_enc (y : Int) : Res T := ⟨[vR T 3 y], []⟩
theorem laws_szStringS_de (res : Res T) (y : Int) (h : laws_szStringS_dec res = some y) : res = laws_szStringS_enc y := by
  obtain ⟨rets, outs⟩ := res
  unfold laws_szStringS_dec at h
  dsimp only at h
  split at h
  · obtain ⟨r0, h0, h⟩ := Option.bind_eq_some_iff.1 h
    cases h
    rw [retV_eq ok h0]
    rfl
  · cases h
def laws_szParty_dec (res : Res T) : Option Int := match res.rets, res.outs with
  | [a0], [] => (retV (T := T) 3 a0).bind fun r0 => some (r0)
  | _, _ => none
def laws_szParty_enc (y : Int) : Res T := ⟨[vR T 3 y], []⟩
theorem laws_szParty_de (res : Res T) (y : Int) (h : laws_szParty_dec res = some y) : res = laws_szParty_enc y := by
  obtain ⟨rets, outs⟩ := res
  unfold laws_szParty_dec at h
  dsimp only at h
  split at h
  · obtain ⟨r0, h0, h⟩ := Option.bind_eq_some_iff.1 h
    cases h
    rw [retV_eq ok h0]
    rfl
  · cases h
def laws_toStringS_dec (res : Res T) : Option (List ByteArray) := match res.rets, res.outs with
  | [a0], [] => (retV (T := T) 104 a0).bind fun r0 => some (r0)
  | _, _ => none
def laws_toStringS_enc (y : List ByteArray) : Res T := ⟨[vR T 104 y], []⟩
theorem laws_toStringS_de (res : Res T) (y : List ByteArray) (h : laws_toStringS_dec res = some y) : res = laws_toStringS_enc y := by
  obtain ⟨rets, outs⟩ := res
  unfold laws_toStringS_dec at h
  dsimp only at h
  split at h
  · obtain ⟨r0, h0, h⟩ := Option.bind_eq_some_iff.1 h
    cases h
    rw [retV_eq ok h0]
    rfl
  · cases h
def laws_toParty_dec (res : Res T) : Option SParty := match res.rets, res.outs with
  | [a0], [] => (retV (T := T) 108 a0).bind fun r0 => some (r0)
  | _, _ => none
def laws_toParty_enc (y : SParty) : Res T := ⟨[vR T 108 y], []⟩
theorem laws_toParty_de (res : Res T) (y : SParty) (h : laws_toParty_dec res = some y) : res = laws_toParty_enc y := by
  obtain ⟨rets, outs⟩ := res
  unfold laws_toParty_dec at h
  dsimp only at h
  split at h
  · obtain ⟨r0, h0, h⟩ := Option.bind_eq_some_iff.1 h
    cases h
    rw [retV_eq ok h0]
    rfl
  · cases h
def laws_toBoolS_dec (res : Res T) : Option (List Bool) := match res.rets, res.outs with
  | [a0], [] => (retV (T := T) 55 a0).bind fun r0 => some (r0)
  | _, _ => none
def laws_toBoolS_enc (y : List Bool) : Res T := ⟨[vR T 55 y], []⟩
theorem laws_toBoolS_de (res : Res T) (y : List Bool) (h : laws_toBoolS_dec res = some y) : res = laws_toBoolS_enc y := by
  obtain ⟨rets, outs⟩ := res
  unfold laws_toBoolS_dec at h
  dsimp only at h
  split at h
  · obtain ⟨r0, h0, h⟩ := Option.bind_eq_some_iff.1 h
    cases h
    rw [retV_eq ok h0]
    rfl
  · cases h
def spec_l21Texts_dec (res : Res T) : Option Bool := match res.rets, res.outs with
  | [a0], [] => (retV (T := T) 4 a0).bind fun r0 => some (r0)
  | _, _ => none
def spec_l21Texts_enc (y : Bool) : Res T := ⟨[vR T 4 y], []⟩
theorem spec_l21Texts_de (res : Res T) (y : Bool) (h : spec_l21Texts_dec res = some y) : res = spec_l21Texts_enc y := by
  obtain ⟨rets, outs⟩ := res
  unfold spec_l21Texts_dec at h
  dsimp only at h
  split at h
  · obtain ⟨r0, h0, h⟩ := Option.bind_eq_some_iff.1 h
    cases h
    rw [retV_eq ok h0]
    rfl
  · cases h
def spec_l1In_dec (res : Res T) : Option Bool := match res.rets, res.outs with
  | [a0], [] => (retV (T := T) 4 a0).bind fun r0 => some (r0)
  | _, _ => none
def spec_l1In_enc (y : Bool) : Res T := ⟨[vR T 4 y], []⟩
theorem spec_l1In_de (res : Res T) (y : Bool) (h : spec_l1In_dec res = some y) : res = spec_l1In_enc y := by
  obtain ⟨rets, outs⟩ := res
  unfold spec_l1In_dec at h
  dsimp only at h
  split at h
  · obtain ⟨r0, h0, h⟩ := Option.bind_eq_some_iff.1 h
    cases h
    rw [retV_eq ok h0]
    rfl
  · cases h
def spec_PartyOk_dec (res : Res T) : Option Bool := match res.rets, res.outs with
  | [a0], [] => (retV (T := T) 4 a0).bind fun r0 => some (r0)
  | _, _ => none
def spec_PartyOk_enc (y : Bool) : Res T := ⟨[vR T 4 y], []⟩
theorem spec_PartyOk_de (res : Res T) (y : Bool) (h : spec_PartyOk_dec res = some y) : res = spec_PartyOk_enc y := by
  obtain ⟨rets, outs⟩ := res
  unfold spec_PartyOk_dec at h
  dsimp only at h
  split at h
  · obtain ⟨r0, h0, h⟩ := Option.bind_eq_some_iff.1 h
    cases h
    rw [retV_eq ok h0]
    rfl
  · cases h
def spec_l21Begins_dec (res : Res T) : Option Bool := match res.rets, res.outs with
  | [a0], [] => (retV (T := T) 4 a0).bind fun r0 => some (r0)
  | _, _ => none
def spec_l21Begins_enc (y : Bool) : Res T := ⟨[vR T 4 y], []⟩
theorem spec_l21Begins_de (res : Res T) (y : Bool) (h : spec_l21Begins_dec res = some y) : res = spec_l21Begins_enc y := by
  obtain ⟨rets, outs⟩ := res
  unfold spec_l21Begins_dec at h
  dsimp only at h
  split at h
  · obtain ⟨r0, h0, h⟩ := Option.bind_eq_some_iff.1 h
    cases h
    rw [retV_eq ok h0]
    rfl
  · cases h
def spec_l21Copy_dec (res : Res T) : Option SParty := match res.rets, res.outs with
  | [a0], [] => (retV (T := T) 108 a0).bind fun r0 => some (r0)
  | _, _ => none
def spec_l21Copy_enc (y : SParty) : Res T := ⟨[vR T 108 y], []⟩
theorem spec_l21Copy_de (res : Res T) (y : SParty) (h : spec_l21Copy_dec res = some y) : res = spec_l21Copy_enc y := by
  obtain ⟨rets, outs⟩ := res
  unfold spec_l21Copy_dec at h
  dsimp only at h
  split at h
  · obtain ⟨r0, h0, h⟩ := Option.bind_eq_some_iff.1 h
    cases h
    rw [retV_eq ok h0]
    rfl
  · cases h
def spec_Again21_dec (res : Res T) : Option (List SPost × Bool) := match res.rets, res.outs with
  | [a0, a1], [] => (retV (T := T) 215 a0).bind fun r0 => (retV (T := T) 4 a1).bind fun r1 => some (r0, r1)
  | _, _ => none
def spec_Again21_enc (y : List SPost × Bool) : Res T := ⟨[vR T 215 y.1, vR T 4 y.2], []⟩
theorem spec_Again21_de (res : Res T) (y : List SPost × Bool) (h : spec_Again21_dec res = some y) : res = spec_Again21_enc y := by
  obtain ⟨rets, outs⟩ := res
  unfold spec_Again21_dec at h
  dsimp only at h
  split at h
  · obtain ⟨r0, h0, h⟩ := Option.bind_eq_some_iff.1 h
    obtain ⟨r1, h1, h⟩ := Option.bind_eq_some_iff.1 h
    cases h
    rw [retV_eq ok h0, retV_eq ok h1]
    rfl
  · cases h
def spec_Take21_dec (res : Res T) : Option (SParty × Bool) := match res.rets, res.outs with
  | [a0, a1], [] => (retV (T := T) 108 a0).bind fun r0 => (retV (T := T) 4 a1).bind fun r1 => some (r0, r1)
  | _, _ => none
def spec_Take21_enc (y : SParty × Bool) : Res T := ⟨[vR T 108 y.1, vR T 4 y.2], []⟩
theorem spec_Take21_de (res : Res T) (y : SParty × Bool) (h : spec_Take21_dec res = some y) : res = spec_Take21_enc y := by
  obtain ⟨rets, outs⟩ := res
  unfold spec_Take21_dec at h
  dsimp only at h
  split at h
  · obtain ⟨r0, h0, h⟩ := Option.bind_eq_some_iff.1 h
    obtain ⟨r1, h1, h⟩ := Option.bind_eq_some_iff.1 h
    cases h
    rw [retV_eq ok h0, retV_eq ok h1]
    rfl
  · cases h
def spec_Settle21_dec (res : Res T) : Option (SParty × SParty × Bool) := match res.rets, res.outs with
  | [a0, a1, a2], [] => (retV (T := T) 108 a0).bind fun r0 => (retV (T := T) 108 a1).bind fun r1 => (retV (T := T) 4 a2).bind fun r2 => some (r0, r1, r2)
  | _, _ => none
def spec_Settle21_enc (y : SParty × SParty × Bool) : Res T := ⟨[vR T 108 y.1, vR T 108 y.2.1, vR T 4 y.2.2], []⟩
theorem spec_Settle21_de (res : Res T) (y : SParty × SParty × Bool) (h : spec_Settle21_dec res = some y) : res = spec_Settle21_enc y := by
  obtain ⟨rets, outs⟩ := res
  unfold spec_Settle21_dec at h
  dsimp only at h
  split at h
  · obtain ⟨r0, h0, h⟩ := Option.bind_eq_some_iff.1 h
    obtain ⟨r1, h1, h⟩ := Option.bind_eq_some_iff.1 h
    obtain ⟨r2, h2, h⟩ := Option.bind_eq_some_iff.1 h
    cases h
    rw [retV_eq ok h0, retV_eq ok h1, retV_eq ok h2]
    rfl
  · cases h
def impl_shortTexts_1_dec (res : Res T) : Option Bool := match res.rets, res.outs with
  | [a0], [] => (retV (T := T) 4 a0).bind fun r0 => some (r0)
  | _, _ => none
def impl_shortTexts_1_enc (y : Bool) : Res T := ⟨[vR T 4 y], []⟩
theorem impl_shortTexts_1_de (res : Res T) (y : Bool) (h : impl_shortTexts_1_dec res = some y) : res = impl_shortTexts_1_enc y := by
  obtain ⟨rets, outs⟩ := res
  unfold impl_shortTexts_1_dec at h
  dsimp only at h
  split at h
  · obtain ⟨r0, h0, h⟩ := Option.bind_eq_some_iff.1 h
    cases h
    rw [retV_eq ok h0]
    rfl
  · cases h
def slices_IndexFunc_string_string__impl_shortTexts_1_dec (res : Res T) : Option Int := match res.rets, res.outs with
  | [a0], [] => (retV (T := T) 3 a0).bind fun r0 => some (r0)
  | _, _ => none
def slices_IndexFunc_string_string__impl_shortTexts_1_enc (y : Int) : Res T := ⟨[vR T 3 y], []⟩
theorem slices_IndexFunc_string_string__impl_shortTexts_1_de (res : Res T) (y : Int) (h : slices_IndexFunc_string_string__impl_shortTexts_1_dec res = some y) : res = slices_IndexFunc_string_string__impl_shortTexts_1_enc y := by
  obtain ⟨rets, outs⟩ := res
  unfold slices_IndexFunc_string_string__impl_shortTexts_1_dec at h
  dsimp only at h
  split at h
  · obtain ⟨r0, h0, h⟩ := Option.bind_eq_some_iff.1 h
    cases h
    rw [retV_eq ok h0]
    rfl
  · cases h
def slices_ContainsFunc_string_string__impl_shortTexts_1_dec (res : Res T) : Option Bool := match res.rets, res.outs with
  | [a0], [] => (retV (T := T) 4 a0).bind fun r0 => some (r0)
  | _, _ => none
def slices_ContainsFunc_string_string__impl_shortTexts_1_enc (y : Bool) : Res T := ⟨[vR T 4 y], []⟩
theorem slices_ContainsFunc_string_string__impl_shortTexts_1_de (res : Res T) (y : Bool) (h : slices_ContainsFunc_string_string__impl_shortTexts_1_dec res = some y) : res = slices_ContainsFunc_string_string__impl_shortTexts_1_enc y := by
  obtain ⟨rets, outs⟩ := res
  unfold slices_ContainsFunc_string_string__impl_shortTexts_1_dec at h
  dsimp only at h
  split at h
  · obtain ⟨r0, h0, h⟩ := Option.bind_eq_some_iff.1 h
    cases h
    rw [retV_eq ok h0]
    rfl
  · cases h
def impl_shortTexts_dec (res : Res T) : Option Bool := match res.rets, res.outs with
  | [a0], [] => (retV (T := T) 4 a0).bind fun r0 => some (r0)
  | _, _ => none
def impl_shortTexts_enc (y : Bool) : Res T := ⟨[vR T 4 y], []⟩
theorem impl_shortTexts_de (res : Res T) (y : Bool) (h : impl_shortTexts_dec res = some y) : res = impl_shortTexts_enc y := by
  obtain ⟨rets, outs⟩ := res
  unfold impl_shortTexts_dec at h
  dsimp only at h
  split at h
  · obtain ⟨r0, h0, h⟩ := Option.bind_eq_some_iff.1 h
    cases h
    rw [retV_eq ok h0]
    rfl
  · cases h
def impl_in_dec (res : Res T) : Option Bool := match res.rets, res.outs with
  | [a0], [] => (retV (T := T) 4 a0).bind fun r0 => some (r0)
  | _, _ => none
def impl_in_enc (y : Bool) : Res T := ⟨[vR T 4 y], []⟩
theorem impl_in_de (res : Res T) (y : Bool) (h : impl_in_dec res = some y) : res = impl_in_enc y := by
  obtain ⟨rets, outs⟩ := res
  unfold impl_in_dec at h
  dsimp only at h
  split at h
  · obtain ⟨r0, h0, h⟩ := Option.bind_eq_some_iff.1 h
    cases h
    rw [retV_eq ok h0]
    rfl
  · cases h
def impl_PartyOk_dec (res : Res T) : Option Bool := match res.rets, res.outs with
  | [a0], [] => (retV (T := T) 4 a0).bind fun r0 => some (r0)
  | _, _ => none
def impl_PartyOk_enc (y : Bool) : Res T := ⟨[vR T 4 y], []⟩
theorem impl_PartyOk_de (res : Res T) (y : Bool) (h : impl_PartyOk_dec res = some y) : res = impl_PartyOk_enc y := by
  obtain ⟨rets, outs⟩ := res
  unfold impl_PartyOk_dec at h
  dsimp only at h
  split at h
  · obtain ⟨r0, h0, h⟩ := Option.bind_eq_some_iff.1 h
    cases h
    rw [retV_eq ok h0]
    rfl
  · cases h
def slices_Equal_string_string_dec (res : Res T) : Option Bool := match res.rets, res.outs with
  | [a0], [] => (retV (T := T) 4 a0).bind fun r0 => some (r0)
  | _, _ => none
def slices_Equal_string_string_enc (y : Bool) : Res T := ⟨[vR T 4 y], []⟩
theorem slices_Equal_string_string_de (res : Res T) (y : Bool) (h : slices_Equal_string_string_dec res = some y) : res = slices_Equal_string_string_enc y := by
  obtain ⟨rets, outs⟩ := res
  unfold slices_Equal_string_string_dec at h
  dsimp only at h
  split at h
  · obtain ⟨r0, h0, h⟩ := Option.bind_eq_some_iff.1 h
    cases h
    rw [retV_eq ok h0]
    rfl
  · cases h
def impl_begins_dec (res : Res T) : Option Bool := match res.rets, res.outs with
  | [a0], [] => (retV (T := T) 4 a0).bind fun r0 => some (r0)
  | _, _ => none
def impl_begins_enc (y : Bool) : Res T := ⟨[vR T 4 y], []⟩
theorem impl_begins_de (res : Res T) (y : Bool) (h : impl_begins_dec res = some y) : res = impl_begins_enc y := by
  obtain ⟨rets, outs⟩ := res
  unfold impl_begins_dec at h
  dsimp only at h
  split at h
  · obtain ⟨r0, h0, h⟩ := Option.bind_eq_some_iff.1 h
    cases h
    rw [retV_eq ok h0]
    rfl
  · cases h
def impl_own_string_dec (res : Res T) : Option (List ByteArray) := match res.rets, res.outs with
  | [a0], [] => (retV (T := T) 104 a0).bind fun r0 => some (r0)
  | _, _ => none
def impl_own_string_enc (y : List ByteArray) : Res T := ⟨[vR T 104 y], []⟩
theorem impl_own_string_de (res : Res T) (y : List ByteArray) (h : impl_own_string_dec res = some y) : res = impl_own_string_enc y := by
  obtain ⟨rets, outs⟩ := res
  unfold impl_own_string_dec at h
  dsimp only at h
  split at h
  · obtain ⟨r0, h0, h⟩ := Option.bind_eq_some_iff.1 h
    cases h
    rw [retV_eq ok h0]
    rfl
  · cases h
def impl_Party_own_dec (res : Res T) : Option SParty := match res.rets, res.outs with
  | [a0], [] => (retV (T := T) 108 a0).bind fun r0 => some (r0)
  | _, _ => none
def impl_Party_own_enc (y : SParty) : Res T := ⟨[vR T 108 y], []⟩
theorem impl_Party_own_de (res : Res T) (y : SParty) (h : impl_Party_own_dec res = some y) : res = impl_Party_own_enc y := by
  obtain ⟨rets, outs⟩ := res
  unfold impl_Party_own_dec at h
  dsimp only at h
  split at h
  · obtain ⟨r0, h0, h⟩ := Option.bind_eq_some_iff.1 h
    cases h
    rw [retV_eq ok h0]
    rfl
  · cases h
def impl_own_impl_Post_dec (res : Res T) : Option (List SPost) := match res.rets, res.outs with
  | [a0], [] => (retV (T := T) 215 a0).bind fun r0 => some (r0)
  | _, _ => none
def impl_own_impl_Post_enc (y : List SPost) : Res T := ⟨[vR T 215 y], []⟩
theorem impl_own_impl_Post_de (res : Res T) (y : List SPost) (h : impl_own_impl_Post_dec res = some y) : res = impl_own_impl_Post_enc y := by
  obtain ⟨rets, outs⟩ := res
  unfold impl_own_impl_Post_dec at h
  dsimp only at h
  split at h
  · obtain ⟨r0, h0, h⟩ := Option.bind_eq_some_iff.1 h
    cases h
    rw [retV_eq ok h0]
    rfl
  · cases h
def impl_Again21_dec (res : Res T) : Option (List SPost × Bool) := match res.rets, res.outs with
  | [a0, a1], [] => (retV (T := T) 215 a0).bind fun r0 => (retV (T := T) 4 a1).bind fun r1 => some (r0, r1)
  | _, _ => none
def impl_Again21_enc (y : List SPost × Bool) : Res T := ⟨[vR T 215 y.1, vR T 4 y.2], []⟩
theorem impl_Again21_de (res : Res T) (y : List SPost × Bool) (h : impl_Again21_dec res = some y) : res = impl_Again21_enc y := by
  obtain ⟨rets, outs⟩ := res
  unfold impl_Again21_dec at h
  dsimp only at h
  split at h
  · obtain ⟨r0, h0, h⟩ := Option.bind_eq_some_iff.1 h
    obtain ⟨r1, h1, h⟩ := Option.bind_eq_some_iff.1 h
    cases h
    rw [retV_eq ok h0, retV_eq ok h1]
    rfl
  · cases h
def impl_Take21_dec (res : Res T) : Option (SParty × Bool) := match res.rets, res.outs with
  | [a0, a1], [] => (retV (T := T) 108 a0).bind fun r0 => (retV (T := T) 4 a1).bind fun r1 => some (r0, r1)
  | _, _ => none
def impl_Take21_enc (y : SParty × Bool) : Res T := ⟨[vR T 108 y.1, vR T 4 y.2], []⟩
theorem impl_Take21_de (res : Res T) (y : SParty × Bool) (h : impl_Take21_dec res = some y) : res = impl_Take21_enc y := by
  obtain ⟨rets, outs⟩ := res
  unfold impl_Take21_dec at h
  dsimp only at h
  split at h
  · obtain ⟨r0, h0, h⟩ := Option.bind_eq_some_iff.1 h
    obtain ⟨r1, h1, h⟩ := Option.bind_eq_some_iff.1 h
    cases h
    rw [retV_eq ok h0, retV_eq ok h1]
    rfl
  · cases h
def impl_Settle21_1_dec (res : Res T) : Option (SParty × Int) := match res.rets, res.outs with
  | [a0], [b0] => (retV (T := T) 108 a0).bind fun r0 => (outV (T := T) 3 b0).bind fun r1 => some (r0, r1)
  | _, _ => none
def impl_Settle21_1_enc (y : SParty × Int) : Res T := ⟨[vR T 108 y.1], [.var 3 y.2]⟩
theorem impl_Settle21_1_de (res : Res T) (y : SParty × Int) (h : impl_Settle21_1_dec res = some y) : res = impl_Settle21_1_enc y := by
  obtain ⟨rets, outs⟩ := res
  unfold impl_Settle21_1_dec at h
  dsimp only at h
  split at h
  · obtain ⟨r0, h0, h⟩ := Option.bind_eq_some_iff.1 h
    obtain ⟨r1, h1, h⟩ := Option.bind_eq_some_iff.1 h
    cases h
    rw [retV_eq ok h0, outV_eq h1]
    rfl
  · cases h
def impl_Settle21_dec (res : Res T) : Option (SParty × SParty × Bool) := match res.rets, res.outs with
  | [a0, a1, a2], [] => (retV (T := T) 108 a0).bind fun r0 => (retV (T := T) 108 a1).bind fun r1 => (retV (T := T) 4 a2).bind fun r2 => some (r0, r1, r2)
  | _, _ => none
def impl_Settle21_enc (y : SParty × SParty × Bool) : Res T := ⟨[vR T 108 y.1, vR T 108 y.2.1, vR T 4 y.2.2], []⟩
theorem impl_Settle21_de (res : Res T) (y : SParty × SParty × Bool) (h : impl_Settle21_dec res = some y) : res = impl_Settle21_enc y := by
  obtain ⟨rets, outs⟩ := res
  unfold impl_Settle21_dec at h
  dsimp only at h
  split at h
  · obtain ⟨r0, h0, h⟩ := Option.bind_eq_some_iff.1 h
    obtain ⟨r1, h1, h⟩ := Option.bind_eq_some_iff.1 h
    obtain ⟨r2, h2, h⟩ := Option.bind_eq_some_iff.1 h
    cases h
    rw [retV_eq ok h0, retV_eq ok h1, retV_eq ok h2]
    rfl
  · cases h
def laws_eqStringS_dec (res : Res T) : Option Bool := match res.rets, res.outs with
  | [a0], [] => (retV (T := T) 4 a0).bind fun r0 => some (r0)
  | _, _ => none
def laws_eqStringS_enc (y : Bool) : Res T := ⟨[vR T 4 y], []⟩
theorem laws_eqStringS_de (res : Res T) (y : Bool) (h : laws_eqStringS_dec res = some y) : res = laws_eqStringS_enc y := by
  obtain ⟨rets, outs⟩ := res
  unfold laws_eqStringS_dec at h
  dsimp only at h
  split at h
  · obtain ⟨r0, h0, h⟩ := Option.bind_eq_some_iff.1 h
    cases h
    rw [retV_eq ok h0]
    rfl
  · cases h
def laws_eqParty_dec (res : Res T) : Option Bool := match res.rets, res.outs with
  | [a0], [] => (retV (T := T) 4 a0).bind fun r0 => some (r0)
  | _, _ => none
def laws_eqParty_enc (y : Bool) : Res T := ⟨[vR T 4 y], []⟩
theorem laws_eqParty_de (res : Res T) (y : Bool) (h : laws_eqParty_dec res = some y) : res = laws_eqParty_enc y := by
  obtain ⟨rets, outs⟩ := res
  unfold laws_eqParty_dec at h
  dsimp only at h
  split at h
  · obtain ⟨r0, h0, h⟩ := Option.bind_eq_some_iff.1 h
    cases h
    rw [retV_eq ok h0]
    rfl
  · cases h
def laws_eqBoolS_dec (res : Res T) : Option Bool := match res.rets, res.outs with
  | [a0], [] => (retV (T := T) 4 a0).bind fun r0 => some (r0)
  | _, _ => none
def laws_eqBoolS_enc (y : Bool) : Res T := ⟨[vR T 4 y], []⟩
theorem laws_eqBoolS_de (res : Res T) (y : Bool) (h : laws_eqBoolS_dec res = some y) : res = laws_eqBoolS_enc y := by
  obtain ⟨rets, outs⟩ := res
  unfold laws_eqBoolS_dec at h
  dsimp only at h
  split at h
  · obtain ⟨r0, h0, h⟩ := Option.bind_eq_some_iff.1 h
    cases h
    rw [retV_eq ok h0]
    rfl
  · cases h
def laws_markText_dec (res : Res T) : Option ByteArray := match res.rets, res.outs with
  | [a0], [] => (retV (T := T) 9 a0).bind fun r0 => some (r0)
  | _, _ => none
def laws_markText_enc (y : ByteArray) : Res T := ⟨[vR T 9 y], []⟩
theorem laws_markText_de (res : Res T) (y : ByteArray) (h : laws_markText_dec res = some y) : res = laws_markText_enc y := by
  obtain ⟨rets, outs⟩ := res
  unfold laws_markText_dec at h
  dsimp only at h
  split at h
  · obtain ⟨r0, h0, h⟩ := Option.bind_eq_some_iff.1 h
    cases h
    rw [retV_eq ok h0]
    rfl
  · cases h
def laws_markStringS_dec (res : Res T) : Option (Int × List ByteArray) := match res.rets, res.outs with
  | [a0], [b0] => (retV (T := T) 3 a0).bind fun r0 => (outS (T := T) 9 b0).bind fun r1 => some (r0, r1)
  | _, _ => none
def laws_markStringS_enc (y : Int × List ByteArray) : Res T := ⟨[vR T 3 y.1], [.sl 9 y.2]⟩
theorem laws_markStringS_de (res : Res T) (y : Int × List ByteArray) (h : laws_markStringS_dec res = some y) : res = laws_markStringS_enc y := by
  obtain ⟨rets, outs⟩ := res
  unfold laws_markStringS_dec at h
  dsimp only at h
  split at h
  · obtain ⟨r0, h0, h⟩ := Option.bind_eq_some_iff.1 h
    obtain ⟨r1, h1, h⟩ := Option.bind_eq_some_iff.1 h
    cases h
    rw [retV_eq ok h0, outS_eq h1]
    rfl
  · cases h
def laws_markParty_dec (res : Res T) : Option (Int × List ByteArray × List ByteArray) := match res.rets, res.outs with
  | [a0], [b0, b1] => (retV (T := T) 3 a0).bind fun r0 => (outS (T := T) 9 b0).bind fun r1 => (outS (T := T) 9 b1).bind fun r2 => some (r0, r1, r2)
  | _, _ => none
def laws_markParty_enc (y : Int × List ByteArray × List ByteArray) : Res T := ⟨[vR T 3 y.1], [.sl 9 y.2.1, .sl 9 y.2.2]⟩
theorem laws_markParty_de (res : Res T) (y : Int × List ByteArray × List ByteArray) (h : laws_markParty_dec res = some y) : res = laws_markParty_enc y := by
  obtain ⟨rets, outs⟩ := res
  unfold laws_markParty_dec at h
  dsimp only at h
  split at h
  · obtain ⟨r0, h0, h⟩ := Option.bind_eq_some_iff.1 h
    obtain ⟨r1, h1, h⟩ := Option.bind_eq_some_iff.1 h
    obtain ⟨r2, h2, h⟩ := Option.bind_eq_some_iff.1 h
    cases h
    rw [retV_eq ok h0, outS_eq h1, outS_eq h2]
    rfl
  · cases h
def laws_markBoolS_dec (res : Res T) : Option (Int × List Bool) := match res.rets, res.outs with
  | [a0], [b0] => (retV (T := T) 3 a0).bind fun r0 => (outS (T := T) 4 b0).bind fun r1 => some (r0, r1)
  | _, _ => none
def laws_markBoolS_enc (y : Int × List Bool) : Res T := ⟨[vR T 3 y.1], [.sl 4 y.2]⟩
theorem laws_markBoolS_de (res : Res T) (y : Int × List Bool) (h : laws_markBoolS_dec res = some y) : res = laws_markBoolS_enc y := by
  obtain ⟨rets, outs⟩ := res
  unfold laws_markBoolS_dec at h
  dsimp only at h
  split at h
  · obtain ⟨r0, h0, h⟩ := Option.bind_eq_some_iff.1 h
    obtain ⟨r1, h1, h⟩ := Option.bind_eq_some_iff.1 h
    cases h
    rw [retV_eq ok h0, outS_eq h1]
    rfl
  · cases h
def laws_heldStringS_dec (res : Res T) : Option Int := match res.rets, res.outs with
  | [a0], [] => (retV (T := T) 3 a0).bind fun r0 => some (r0)
  | _, _ => none
def laws_heldStringS_enc (y : Int) : Res T := ⟨[vR T 3 y], []⟩
theorem laws_heldStringS_de (res : Res T) (y : Int) (h : laws_heldStringS_dec res = some y) : res = laws_heldStringS_enc y := by
  obtain ⟨rets, outs⟩ := res
  unfold laws_heldStringS_dec at h
  dsimp only at h
  split at h
  · obtain ⟨r0, h0, h⟩ := Option.bind_eq_some_iff.1 h
    cases h
    rw [retV_eq ok h0]
    rfl
  · cases h
def laws_heldParty_dec (res : Res T) : Option Int := match res.rets, res.outs with
  | [a0], [] => (retV (T := T) 3 a0).bind fun r0 => some (r0)
  | _, _ => none
def laws_heldParty_enc (y : Int) : Res T := ⟨[vR T 3 y], []⟩
theorem laws_heldParty_de (res : Res T) (y : Int) (h : laws_heldParty_dec res = some y) : res = laws_heldParty_enc y := by
  obtain ⟨rets, outs⟩ := res
  unfold laws_heldParty_dec at h
  dsimp only at h
  split at h
  · obtain ⟨r0, h0, h⟩ := Option.bind_eq_some_iff.1 h
    cases h
    rw [retV_eq ok h0]
    rfl
  · cases h
def laws_FnExactSettle21_dec (res : Res T) : Option Bool := match res.rets, res.outs with
  | [a0], [] => (retV (T := T) 4 a0).bind fun r0 => some (r0)
  | _, _ => none
def laws_FnExactSettle21_enc (y : Bool) : Res T := ⟨[vR T 4 y], []⟩
theorem laws_FnExactSettle21_de (res : Res T) (y : Bool) (h : laws_FnExactSettle21_dec res = some y) : res = laws_FnExactSettle21_enc y := by
  obtain ⟨rets, outs⟩ := res
  unfold laws_FnExactSettle21_dec at h
  dsimp only at h
  split at h
  · obtain ⟨r0, h0, h⟩ := Option.bind_eq_some_iff.1 h
    cases h
    rw [retV_eq ok h0]
    rfl
  · cases h
def laws_szStringS_D (n : Nat) (r0 : List (A T)) : Option Int := ocons r0 fun a0 r1 => ocons r1 fun a1 r2 => onil r2 (obind (argV (T := T) 104 a0) fun a0 => obind (argV (T := T) 3 a1) fun left1 => laws_szStringS n a0 left1)
def laws_szStringS_ent (n : Nat) : Ent T := ⟨156, 0, [], Int, laws_szStringS_D n, laws_szStringS_enc⟩
def laws_szParty_D (n : Nat) (r0 : List (A T)) : Option Int := ocons r0 fun a0 r1 => ocons r1 fun a1 r2 => onil r2 (obind (argV (T := T) 106 a0) fun a0 => obind (argV (T := T) 3 a1) fun left1 => laws_szParty n a0 left1)
def laws_szParty_ent (n : Nat) : Ent T := ⟨73, 1, [], Int, laws_szParty_D n, laws_szParty_enc⟩
def laws_toStringS_D (n : Nat) (r0 : List (A T)) : Option (List ByteArray) := ocons r0 fun a0 r1 => onil r1 (obind (argV (T := T) 104 a0) fun a0 => laws_toStringS n a0)
def laws_toStringS_ent (n : Nat) : Ent T := ⟨162, 2, [], List ByteArray, laws_toStringS_D n, laws_toStringS_enc⟩
def laws_toParty_D (n : Nat) (r0 : List (A T)) : Option SParty := ocons r0 fun a0 r1 => onil r1 (obind (argV (T := T) 106 a0) fun a0 => laws_toParty n a0)
def laws_toParty_ent (n : Nat) : Ent T := ⟨75, 3, [], SParty, laws_toParty_D n, laws_toParty_enc⟩
def laws_toBoolS_D (n : Nat) (r0 : List (A T)) : Option (List Bool) := ocons r0 fun a0 r1 => onil r1 (obind (argV (T := T) 55 a0) fun a0 => laws_toBoolS n a0)
def laws_toBoolS_ent (n : Nat) : Ent T := ⟨76, 4, [], List Bool, laws_toBoolS_D n, laws_toBoolS_enc⟩
def spec_l21Texts_D (n : Nat) (r0 : List (A T)) : Option Bool := ocons r0 fun a0 r1 => onil r1 (obind (argV (T := T) 104 a0) fun list0 => spec_l21Texts n list0)
def spec_l21Texts_ent (n : Nat) : Ent T := ⟨224, 5, [], Bool, spec_l21Texts_D n, spec_l21Texts_enc⟩
def spec_l1In_D (n : Nat) (r0 : List (A T)) : Option Bool := ocons r0 fun a0 r1 => ocons r1 fun a1 r2 => ocons r2 fun a2 r3 => onil r3 (obind (argV (T := T) 3 a0) fun x0 => obind (argV (T := T) 3 a1) fun a1 => obind (argV (T := T) 3 a2) fun b2 => spec_l1In n x0 a1 b2)
def spec_l1In_ent (n : Nat) : Ent T := ⟨101, 6, [], Bool, spec_l1In_D n, spec_l1In_enc⟩
def spec_PartyOk_D (n : Nat) (r0 : List (A T)) : Option Bool := ocons r0 fun a0 r1 => onil r1 (obind (argV (T := T) 108 a0) fun p0 => spec_PartyOk n p0)
def spec_PartyOk_ent (n : Nat) : Ent T := ⟨157, 7, [], Bool, spec_PartyOk_D n, spec_PartyOk_enc⟩
def spec_l21Begins_D (n : Nat) (r0 : List (A T)) : Option Bool := ocons r0 fun a0 r1 => ocons r1 fun a1 r2 => onil r2 (obind (argV (T := T) 104 a0) fun part0 => obind (argV (T := T) 104 a1) fun whole1 => spec_l21Begins n part0 whole1)
def spec_l21Begins_ent (n : Nat) : Ent T := ⟨158, 8, [], Bool, spec_l21Begins_D n, spec_l21Begins_enc⟩
def spec_l21Copy_D (n : Nat) (r0 : List (A T)) : Option SParty := ocons r0 fun a0 r1 => onil r1 (obind (argV (T := T) 108 a0) fun p0 => spec_l21Copy n p0)
def spec_l21Copy_ent (n : Nat) : Ent T := ⟨159, 9, [], SParty, spec_l21Copy_D n, spec_l21Copy_enc⟩
def spec_Again21_D (n : Nat) (r0 : List (A T)) : Option (List SPost × Bool) := ocons r0 fun a0 r1 => ocons r1 fun a1 r2 => onil r2 (obind (argV (T := T) 108 a0) fun p0 => obind (argV (T := T) 3 a1) fun who1 => spec_Again21 n p0 who1)
def spec_Again21_ent (n : Nat) : Ent T := ⟨160, 10, [], List SPost × Bool, spec_Again21_D n, spec_Again21_enc⟩
def spec_Take21_D (n : Nat) (r0 : List (A T)) : Option (SParty × Bool) := ocons r0 fun a0 r1 => ocons r1 fun a1 r2 => ocons r2 fun a2 r3 => onil r3 (obind (argV (T := T) 108 a0) fun p0 => obind (argV (T := T) 3 a1) fun who1 => obind (argV (T := T) 221 a2) fun post2 => spec_Take21 n p0 who1 post2)
def spec_Take21_ent (n : Nat) : Ent T := ⟨161, 11, [], SParty × Bool, spec_Take21_D n, spec_Take21_enc⟩
def spec_Settle21_D (n : Nat) (r0 : List (A T)) : Option (SParty × SParty × Bool) := ocons r0 fun a0 r1 => ocons r1 fun a1 r2 => ocons r2 fun a2 r3 => ocons r3 fun a3 r4 => onil r4 (obind (argV (T := T) 108 a0) fun a0 => obind (argV (T := T) 108 a1) fun b1 => obind (argV (T := T) 55 a2) fun lost2 => obind (argV (T := T) 3 a3) fun rounds3 => spec_Settle21 n a0 b1 lost2 rounds3)
def spec_Settle21_ent (n : Nat) : Ent T := ⟨74, 12, [], SParty × SParty × Bool, spec_Settle21_D n, spec_Settle21_enc⟩
def impl_shortTexts_1_D (n : Nat) (r0 : List (A T)) : Option Bool := ocons r0 fun a0 r1 => onil r1 (obind (argV (T := T) 9 a0) fun s0 => impl_shortTexts_1 n s0)
def impl_shortTexts_1_ent (n : Nat) : Ent T := ⟨252, 13, [], Bool, impl_shortTexts_1_D n, impl_shortTexts_1_enc⟩
def slices_IndexFunc_string_string__impl_shortTexts_1_D (n : Nat) (ar : List (A T)) : Option Int := match ar with
  | [a0, .fn _ []] => obind (argV (T := T) 104 a0) fun s0 => slices_IndexFunc_string_string__impl_shortTexts_1 n s0
  | _ => none
def slices_IndexFunc_string_string__impl_shortTexts_1_ent (n : Nat) : Ent T := ⟨255, 14, [252], Int, slices_IndexFunc_string_string__impl_shortTexts_1_D n, slices_IndexFunc_string_string__impl_shortTexts_1_enc⟩
def slices_ContainsFunc_string_string__impl_shortTexts_1_D (n : Nat) (ar : List (A T)) : Option Bool := match ar with
  | [a0, .fn _ []] => obind (argV (T := T) 104 a0) fun s0 => slices_ContainsFunc_string_string__impl_shortTexts_1 n s0
  | _ => none
def slices_ContainsFunc_string_string__impl_shortTexts_1_ent (n : Nat) : Ent T := ⟨233, 15, [252], Bool, slices_ContainsFunc_string_string__impl_shortTexts_1_D n, slices_ContainsFunc_string_string__impl_shortTexts_1_enc⟩
def impl_shortTexts_D (n : Nat) (r0 : List (A T)) : Option Bool := ocons r0 fun a0 r1 => onil r1 (obind (argV (T := T) 104 a0) fun l0 => impl_shortTexts n l0)
def impl_shortTexts_ent (n : Nat) : Ent T := ⟨225, 16, [], Bool, impl_shortTexts_D n, impl_shortTexts_enc⟩
def impl_in_D (n : Nat) (r0 : List (A T)) : Option Bool := ocons r0 fun a0 r1 => ocons r1 fun a1 r2 => ocons r2 fun a2 r3 => onil r3 (obind (argV (T := T) 3 a0) fun n0 => obind (argV (T := T) 3 a1) fun least1 => obind (argV (T := T) 3 a2) fun most2 => impl_in n n0 least1 most2)
def impl_in_ent (n : Nat) : Ent T := ⟨113, 17, [], Bool, impl_in_D n, impl_in_enc⟩
def impl_PartyOk_D (n : Nat) (r0 : List (A T)) : Option Bool := ocons r0 fun a0 r1 => onil r1 (obind (argV (T := T) 108 a0) fun p0 => impl_PartyOk n p0)
def impl_PartyOk_ent (n : Nat) : Ent T := ⟨163, 18, [], Bool, impl_PartyOk_D n, impl_PartyOk_enc⟩
def slices_Equal_string_string_D (n : Nat) (r0 : List (A T)) : Option Bool := ocons r0 fun a0 r1 => ocons r1 fun a1 r2 => onil r2 (obind (argV (T := T) 104 a0) fun s10 => obind (argV (T := T) 104 a1) fun s21 => slices_Equal_string_string n s10 s21)
def slices_Equal_string_string_ent (n : Nat) : Ent T := ⟨169, 19, [], Bool, slices_Equal_string_string_D n, slices_Equal_string_string_enc⟩
def impl_begins_D (n : Nat) (r0 : List (A T)) : Option Bool := ocons r0 fun a0 r1 => ocons r1 fun a1 r2 => onil r2 (obind (argV (T := T) 104 a0) fun a0 => obind (argV (T := T) 104 a1) fun b1 => impl_begins n a0 b1)
def impl_begins_ent (n : Nat) : Ent T := ⟨164, 20, [], Bool, impl_begins_D n, impl_begins_enc⟩
def impl_own_string_D (n : Nat) (r0 : List (A T)) : Option (List ByteArray) := ocons r0 fun a0 r1 => onil r1 (obind (argV (T := T) 104 a0) fun l0 => impl_own_string n l0)
def impl_own_string_ent (n : Nat) : Ent T := ⟨123, 21, [], List ByteArray, impl_own_string_D n, impl_own_string_enc⟩
def impl_Party_own_D (n : Nat) (r0 : List (A T)) : Option SParty := ocons r0 fun a0 r1 => onil r1 (obind (argV (T := T) 108 a0) fun p0 => impl_Party_own n p0)
def impl_Party_own_ent (n : Nat) : Ent T := ⟨168, 22, [], SParty, impl_Party_own_D n, impl_Party_own_enc⟩
def impl_own_impl_Post_D (n : Nat) (r0 : List (A T)) : Option (List SPost) := ocons r0 fun a0 r1 => onil r1 (obind (argV (T := T) 215 a0) fun l0 => impl_own_impl_Post n l0)
def impl_own_impl_Post_ent (n : Nat) : Ent T := ⟨226, 23, [], List SPost, impl_own_impl_Post_D n, impl_own_impl_Post_enc⟩
def impl_Again21_D (n : Nat) (r0 : List (A T)) : Option (List SPost × Bool) := ocons r0 fun a0 r1 => ocons r1 fun a1 r2 => onil r2 (obind (argV (T := T) 108 a0) fun p0 => obind (argV (T := T) 3 a1) fun who1 => impl_Again21 n p0 who1)
def impl_Again21_ent (n : Nat) : Ent T := ⟨166, 24, [], List SPost × Bool, impl_Again21_D n, impl_Again21_enc⟩
def impl_Take21_D (n : Nat) (r0 : List (A T)) : Option (SParty × Bool) := ocons r0 fun a0 r1 => ocons r1 fun a1 r2 => ocons r2 fun a2 r3 => onil r3 (obind (argV (T := T) 108 a0) fun p0 => obind (argV (T := T) 3 a1) fun who1 => obind (argV (T := T) 221 a2) fun post2 => impl_Take21 n p0 who1 post2)
def impl_Take21_ent (n : Nat) : Ent T := ⟨167, 25, [], SParty × Bool, impl_Take21_D n, impl_Take21_enc⟩
def impl_Settle21_1_D (n : Nat) (r0 : List (A T)) : Option (SParty × Int) := ocons r0 fun a0 r1 => ocons r1 fun a1 r2 => ocons r2 fun a2 r3 => ocons r3 fun a3 r4 => ocons r4 fun a4 r5 => onil r5 (obind (argV (T := T) 108 a0) fun from0 => obind (argV (T := T) 3 a1) fun who1 => obind (argV (T := T) 108 a2) fun to2 => obind (argP (T := T) 3 a3) fun a3 => obind (argP (T := T) 55 a4) fun a4 => impl_Settle21_1 n from0 who1 to2 a3 a4)
def impl_Settle21_1_ent (n : Nat) : Ent T := ⟨165, 26, [], SParty × Int, impl_Settle21_1_D n, impl_Settle21_1_enc⟩
def impl_Settle21_D (n : Nat) (r0 : List (A T)) : Option (SParty × SParty × Bool) := ocons r0 fun a0 r1 => ocons r1 fun a1 r2 => ocons r2 fun a2 r3 => ocons r3 fun a3 r4 => onil r4 (obind (argV (T := T) 108 a0) fun a0 => obind (argV (T := T) 108 a1) fun b1 => obind (argV (T := T) 55 a2) fun lost2 => obind (argV (T := T) 3 a3) fun rounds3 => impl_Settle21 n a0 b1 lost2 rounds3)
def impl_Settle21_ent (n : Nat) : Ent T := ⟨77, 27, [], SParty × SParty × Bool, impl_Settle21_D n, impl_Settle21_enc⟩
def laws_eqStringS_D (n : Nat) (r0 : List (A T)) : Option Bool := ocons r0 fun a0 r1 => ocons r1 fun a1 r2 => onil r2 (obind (argV (T := T) 104 a0) fun a0 => obind (argV (T := T) 104 a1) fun b1 => laws_eqStringS n a0 b1)
def laws_eqStringS_ent (n : Nat) : Ent T := ⟨170, 28, [], Bool, laws_eqStringS_D n, laws_eqStringS_enc⟩
def laws_eqParty_D (n : Nat) (r0 : List (A T)) : Option Bool := ocons r0 fun a0 r1 => ocons r1 fun a1 r2 => onil r2 (obind (argV (T := T) 108 a0) fun a0 => obind (argV (T := T) 108 a1) fun b1 => laws_eqParty n a0 b1)
def laws_eqParty_ent (n : Nat) : Ent T := ⟨78, 29, [], Bool, laws_eqParty_D n, laws_eqParty_enc⟩
def laws_eqBoolS_D (n : Nat) (r0 : List (A T)) : Option Bool := ocons r0 fun a0 r1 => ocons r1 fun a1 r2 => onil r2 (obind (argV (T := T) 55 a0) fun a0 => obind (argV (T := T) 55 a1) fun b1 => laws_eqBoolS n a0 b1)
def laws_eqBoolS_ent (n : Nat) : Ent T := ⟨43, 30, [], Bool, laws_eqBoolS_D n, laws_eqBoolS_enc⟩
def laws_markText_D (n : Nat) (r0 : List (A T)) : Option ByteArray := ocons r0 fun a0 r1 => onil r1 (obind (argV (T := T) 3 a0) fun k0 => laws_markText n k0)
def laws_markText_ent (n : Nat) : Ent T := ⟨108, 31, [], ByteArray, laws_markText_D n, laws_markText_enc⟩
def laws_markStringS_D (n : Nat) (r0 : List (A T)) : Option (Int × List ByteArray) := ocons r0 fun a0 r1 => ocons r1 fun a1 r2 => onil r2 (obind (argV (T := T) 104 a0) fun a0 => obind (argV (T := T) 3 a1) fun k1 => laws_markStringS n a0 k1)
def laws_markStringS_ent (n : Nat) : Ent T := ⟨171, 32, [], Int × List ByteArray, laws_markStringS_D n, laws_markStringS_enc⟩
def laws_markParty_D (n : Nat) (r0 : List (A T)) : Option (Int × List ByteArray × List ByteArray) := ocons r0 fun a0 r1 => ocons r1 fun a1 r2 => onil r2 (obind (argV (T := T) 108 a0) fun a0 => obind (argV (T := T) 3 a1) fun k1 => laws_markParty n a0 k1)
def laws_markParty_ent (n : Nat) : Ent T := ⟨79, 33, [], Int × List ByteArray × List ByteArray, laws_markParty_D n, laws_markParty_enc⟩
def laws_markBoolS_D (n : Nat) (r0 : List (A T)) : Option (Int × List Bool) := ocons r0 fun a0 r1 => ocons r1 fun a1 r2 => onil r2 (obind (argV (T := T) 55 a0) fun a0 => obind (argV (T := T) 3 a1) fun k1 => laws_markBoolS n a0 k1)
def laws_markBoolS_ent (n : Nat) : Ent T := ⟨46, 34, [], Int × List Bool, laws_markBoolS_D n, laws_markBoolS_enc⟩
def laws_heldStringS_D (n : Nat) (r0 : List (A T)) : Option Int := ocons r0 fun a0 r1 => ocons r1 fun a1 r2 => onil r2 (obind (argV (T := T) 104 a0) fun a0 => obind (argV (T := T) 3 a1) fun k1 => laws_heldStringS n a0 k1)
def laws_heldStringS_ent (n : Nat) : Ent T := ⟨172, 35, [], Int, laws_heldStringS_D n, laws_heldStringS_enc⟩
def laws_heldParty_D (n : Nat) (r0 : List (A T)) : Option Int := ocons r0 fun a0 r1 => ocons r1 fun a1 r2 => onil r2 (obind (argV (T := T) 108 a0) fun a0 => obind (argV (T := T) 3 a1) fun k1 => laws_heldParty n a0 k1)
def laws_heldParty_ent (n : Nat) : Ent T := ⟨80, 36, [], Int, laws_heldParty_D n, laws_heldParty_enc⟩
def laws_FnExactSettle21_D (n : Nat) (r0 : List (A T)) : Option Bool := ocons r0 fun a0 r1 => ocons r1 fun a1 r2 => ocons r2 fun a2 r3 => ocons r3 fun a3 r4 => onil r4 (obind (argV (T := T) 106 a0) fun aA0 => obind (argV (T := T) 106 a1) fun aB1 => obind (argV (T := T) 55 a2) fun aLost2 => obind (argV (T := T) 3 a3) fun aRounds3 => laws_FnExactSettle21 n aA0 aB1 aLost2 aRounds3)
def laws_FnExactSettle21_ent (n : Nat) : Ent T := ⟨10, 37, [], Bool, laws_FnExactSettle21_D n, laws_FnExactSettle21_enc⟩
def ents (n : Nat) : List (Ent T) := [laws_szStringS_ent n, laws_szParty_ent n, laws_toStringS_ent n, laws_toParty_ent n, laws_toBoolS_ent n, spec_l21Texts_ent n, spec_l1In_ent n, spec_PartyOk_ent n, spec_l21Begins_ent n, spec_l21Copy_ent n, spec_Again21_ent n, spec_Take21_ent n, spec_Settle21_ent n, impl_shortTexts_1_ent n, slices_IndexFunc_string_string__impl_shortTexts_1_ent n, slices_ContainsFunc_string_string__impl_shortTexts_1_ent n, impl_shortTexts_ent n, impl_in_ent n, impl_PartyOk_ent n, slices_Equal_string_string_ent n, impl_begins_ent n, impl_own_string_ent n, impl_Party_own_ent n, impl_own_impl_Post_ent n, impl_Again21_ent n, impl_Take21_ent n, impl_Settle21_1_ent n, impl_Settle21_ent n, laws_eqStringS_ent n, laws_eqParty_ent n, laws_eqBoolS_ent n, laws_markText_ent n, laws_markStringS_ent n, laws_markParty_ent n, laws_markBoolS_ent n, laws_heldStringS_ent n, laws_heldParty_ent n, laws_FnExactSettle21_ent n]
abbrev Phi (n i : Nat) {R : Type} (f : Nat) (ar : List (A T)) (K : Res T → Option R) : Option R := PhiE (ents n) i f ar K
theorem mixed : Try.prog.follows .mixedOrders = true := by kernel_rfl
noncomputable def laws_szStringS_code : Code := match Try.f156.body with | some c => c | none => .skip
def laws_szStringS_5_sv : List Sv := [.one (.arr 9), .one (.int .i64), .one (.int .i64)]
def laws_szStringS_5_so : List So := []
def laws_szStringS_5_emb (c : List ByteArray) (x : Int × Int) : EVs T laws_szStringS_5_sv × EOs T laws_szStringS_5_so := ((c, x.1, x.2, ()), ())
def laws_szStringS_5_prj (y : EVs T laws_szStringS_5_sv × EOs T laws_szStringS_5_so) : List ByteArray × (Int × Int) := ((y.1.1), (y.1.2.1, y.1.2.2.1))
def laws_szStringS_5_b (n : Nat) {R : Type} (K : Ex → Sm.St T → Option R) (c : List ByteArray) (x : Int × Int) (J : (Int × Int) → Option R) : Option R :=
  laws_szStringS_L5 n (fun (y0 : Int) => K (.exit 0) (stOf (T := T) [1] [] [.one (.int .i64)] [] (y0, ()) ())) (fun (y0 : Int) => K .ret (stOf (T := T) [4] [] [.one (.int .i64)] [] (y0, ()) ())) (fun z0 z1 => J (z0, z1)) c x.1 x.2
def laws_szStringS_5_sp (n : Nat) : LSpec T := mkSpec T ⟨[], [0, 1, 5], []⟩ laws_szStringS_5_sv laws_szStringS_5_so (List ByteArray) (Int × Int) laws_szStringS_5_emb laws_szStringS_5_prj (laws_szStringS_5_b n)
noncomputable def laws_szStringS_5_c : Code := ((loopCodes laws_szStringS_code)[0]?).getD .skip
def laws_szStringS_ann : Ann := fun id => bif Nat.beq id 3000005 then some ⟨[], [1], []⟩ else bif Nat.beq id 2000005 then some ⟨[], [4], []⟩ else none
def laws_szStringS_Ls (n : Nat) : Nat → Option (LSpec T) := fun id => bif Nat.beq id 5 then some (laws_szStringS_5_sp n) else none
theorem laws_szStringS_5_le (n : Nat) : LoopEq (T := T) (Phi n 0) (laws_szStringS_Ls n) laws_szStringS_ann n laws_szStringS_5_c (laws_szStringS_5_sp n) := ⟨mkSpec_dec (fun y => rfl), fun c x => by kernel_rfl, fun K J c x => by kernel_rfl⟩
theorem laws_szStringS_tie (n : Nat) (a0 : List ByteArray) (left1 : Int) : evF (T := T) (Phi n 0) (laws_szStringS_Ls n) laws_szStringS_ann n Try.f156 (sg 156) [vA T 104 a0, vA T 3 left1] laws_szStringS_dec = laws_szStringS n a0 left1 := by kernel_rfl
theorem laws_szStringS_lo (n : Nat) : LoopsOk (T := T) (Phi n 0) (laws_szStringS_Ls n) laws_szStringS_ann n laws_szStringS_code := loopsOk_all (cs := [laws_szStringS_5_c]) (by kernel_rfl) ⟨⟨_, by kernel_rfl, laws_szStringS_5_le n⟩, trivial⟩
theorem laws_szStringS_ok (n : Nat) : EntOk Try.prog (ents n) (laws_szStringS_ent n) := by
  intro hs ar y hg h
  replace h : laws_szStringS_D n ar = some y := h
  unfold laws_szStringS_D at h
  replace h := ocons_some h
  obtain ⟨a0, r0, rfl, h⟩ := h
  replace h := ocons_some h
  obtain ⟨a1, r1, rfl, h⟩ := h
  replace h := onil_some h
  obtain ⟨rfl, h⟩ := h
  obtain ⟨a0, qh0, h⟩ := obind_some h
  obtain ⟨left1, qh1, h⟩ := obind_some h
  rw [argV_eq ok qh0, argV_eq ok qh1]
  exact call_of (phiE_nat _ _) hs ok mixed Try.func156 (c := laws_szStringS_code) (by kernel_rfl) (laws_szStringS_lo n) (by kernel_rfl) (by kernel_rfl) (by kernel_rfl) laws_szStringS_de ((laws_szStringS_tie n a0 left1).trans h)
noncomputable def laws_szParty_code : Code := match Try.f73.body with | some c => c | none => .skip
def laws_szParty_ann : Ann := fun id => none
def laws_szParty_Ls (n : Nat) : Nat → Option (LSpec T) := fun id => none
theorem laws_szParty_tie (n : Nat) (a0 : SParty) (left1 : Int) : evF (T := T) (Phi n 1) (laws_szParty_Ls n) laws_szParty_ann n Try.f73 (sg 73) [vA T 106 a0, vA T 3 left1] laws_szParty_dec = laws_szParty n a0 left1 := by kernel_rfl
theorem laws_szParty_lo (n : Nat) : LoopsOk (T := T) (Phi n 1) (laws_szParty_Ls n) laws_szParty_ann n laws_szParty_code := loopsOk_all (cs := []) (by kernel_rfl) trivial
theorem laws_szParty_ok (n : Nat) : EntOk Try.prog (ents n) (laws_szParty_ent n) := by
  intro hs ar y hg h
  replace h : laws_szParty_D n ar = some y := h
  unfold laws_szParty_D at h
  replace h := ocons_some h
  obtain ⟨a0, r0, rfl, h⟩ := h
  replace h := ocons_some h
  obtain ⟨a1, r1, rfl, h⟩ := h
  replace h := onil_some h
  obtain ⟨rfl, h⟩ := h
  obtain ⟨a0, qh0, h⟩ := obind_some h
  obtain ⟨left1, qh1, h⟩ := obind_some h
  rw [argV_eq ok qh0, argV_eq ok qh1]
  exact call_of (phiE_nat _ _) hs ok mixed Try.func73 (c := laws_szParty_code) (by kernel_rfl) (laws_szParty_lo n) (by kernel_rfl) (by kernel_rfl) (by kernel_rfl) laws_szParty_de ((laws_szParty_tie n a0 left1).trans h)
noncomputable def laws_toStringS_code : Code := match Try.f162.body with | some c => c | none => .skip
def laws_toStringS_3_sv : List Sv := [.one (.arr 9), .one (.own 3000000 9 false), .one (.int .i64)]
def laws_toStringS_3_so : List So := [.arr 9 false]
def laws_toStringS_3_emb (c : List ByteArray) (x : Int × List ByteArray) : EVs T laws_toStringS_3_sv × EOs T laws_toStringS_3_so := ((c, (), x.1, ()), (x.2, ()))
def laws_toStringS_3_prj (y : EVs T laws_toStringS_3_sv × EOs T laws_toStringS_3_so) : List ByteArray × (Int × List ByteArray) := ((y.1.1), (y.1.2.2.1, y.2.1))
def laws_toStringS_3_b (n : Nat) {R : Type} (K : Ex → Sm.St T → Option R) (c : List ByteArray) (x : Int × List ByteArray) (J : (Int × List ByteArray) → Option R) : Option R :=
  laws_toStringS_L3 n (fun (y0 : List ByteArray) => K (.exit 0) (stOf (T := T) [3] [3000000] [.one (.own 3000000 9 false)] [.arr 9 false] ((), ()) (y0, ()))) (fun z0 z1 => J (z0, z1)) c x.1 x.2
def laws_toStringS_3_sp (n : Nat) : LSpec T := mkSpec T ⟨[((.reg 3), 3000000, 9)], [0, 3, 4], [3000000]⟩ laws_toStringS_3_sv laws_toStringS_3_so (List ByteArray) (Int × List ByteArray) laws_toStringS_3_emb laws_toStringS_3_prj (laws_toStringS_3_b n)
noncomputable def laws_toStringS_3_c : Code := ((loopCodes laws_toStringS_code)[0]?).getD .skip
def laws_toStringS_ann : Ann := fun id => bif Nat.beq id 3000003 then some ⟨[((.reg 3), 3000000, 9)], [3], [3000000]⟩ else none
def laws_toStringS_Ls (n : Nat) : Nat → Option (LSpec T) := fun id => bif Nat.beq id 3 then some (laws_toStringS_3_sp n) else none
theorem laws_toStringS_3_le (n : Nat) : LoopEq (T := T) (Phi n 2) (laws_toStringS_Ls n) laws_toStringS_ann n laws_toStringS_3_c (laws_toStringS_3_sp n) := ⟨mkSpec_dec (fun y => rfl), fun c x => by kernel_rfl, fun K J c x => by kernel_rfl⟩
theorem laws_toStringS_tie (n : Nat) (a0 : List ByteArray) : evF (T := T) (Phi n 2) (laws_toStringS_Ls n) laws_toStringS_ann n Try.f162 (sg 162) [vA T 104 a0] laws_toStringS_dec = laws_toStringS n a0 := by kernel_rfl
theorem laws_toStringS_lo (n : Nat) : LoopsOk (T := T) (Phi n 2) (laws_toStringS_Ls n) laws_toStringS_ann n laws_toStringS_code := loopsOk_all (cs := [laws_toStringS_3_c]) (by kernel_rfl) ⟨⟨_, by kernel_rfl, laws_toStringS_3_le n⟩, trivial⟩
theorem laws_toStringS_ok (n : Nat) : EntOk Try.prog (ents n) (laws_toStringS_ent n) := by
  intro hs ar y hg h
  replace h : laws_toStringS_D n ar = some y := h
  unfold laws_toStringS_D at h
  replace h := ocons_some h
  obtain ⟨a0, r0, rfl, h⟩ := h
  replace h := onil_some h
  obtain ⟨rfl, h⟩ := h
  obtain ⟨a0, qh0, h⟩ := obind_some h
  rw [argV_eq ok qh0]
  exact call_of (phiE_nat _ _) hs ok mixed Try.func162 (c := laws_toStringS_code) (by kernel_rfl) (laws_toStringS_lo n) (by kernel_rfl) (by kernel_rfl) (by kernel_rfl) laws_toStringS_de ((laws_toStringS_tie n a0).trans h)
noncomputable def laws_toParty_code : Code := match Try.f75.body with | some c => c | none => .skip
def laws_toParty_ann : Ann := fun id => none
def laws_toParty_Ls (n : Nat) : Nat → Option (LSpec T) := fun id => none
theorem laws_toParty_tie (n : Nat) (a0 : SParty) : evF (T := T) (Phi n 3) (laws_toParty_Ls n) laws_toParty_ann n Try.f75 (sg 75) [vA T 106 a0] laws_toParty_dec = laws_toParty n a0 := by kernel_rfl
theorem laws_toParty_lo (n : Nat) : LoopsOk (T := T) (Phi n 3) (laws_toParty_Ls n) laws_toParty_ann n laws_toParty_code := loopsOk_all (cs := []) (by kernel_rfl) trivial
theorem laws_toParty_ok (n : Nat) : EntOk Try.prog (ents n) (laws_toParty_ent n) := by
  intro hs ar y hg h
  replace h : laws_toParty_D n ar = some y := h
  unfold laws_toParty_D at h
  replace h := ocons_some h
  obtain ⟨a0, r0, rfl, h⟩ := h
  replace h := onil_some h
  obtain ⟨rfl, h⟩ := h
  obtain ⟨a0, qh0, h⟩ := obind_some h
  rw [argV_eq ok qh0]
  exact call_of (phiE_nat _ _) hs ok mixed Try.func75 (c := laws_toParty_code) (by kernel_rfl) (laws_toParty_lo n) (by kernel_rfl) (by kernel_rfl) (by kernel_rfl) laws_toParty_de ((laws_toParty_tie n a0).trans h)
noncomputable def laws_toBoolS_code : Code := match Try.f76.body with | some c => c | none => .skip
def laws_toBoolS_3_sv : List Sv := [.one (.arr 4), .one (.own 3000000 4 false), .one (.int .i64)]
def laws_toBoolS_3_so : List So := [.arr 4 false]
def laws_toBoolS_3_emb (c : List Bool) (x : Int × List Bool) : EVs T laws_toBoolS_3_sv × EOs T laws_toBoolS_3_so := ((c, (), x.1, ()), (x.2, ()))
def laws_toBoolS_3_prj (y : EVs T laws_toBoolS_3_sv × EOs T laws_toBoolS_3_so) : List Bool × (Int × List Bool) := ((y.1.1), (y.1.2.2.1, y.2.1))
def laws_toBoolS_3_b (n : Nat) {R : Type} (K : Ex → Sm.St T → Option R) (c : List Bool) (x : Int × List Bool) (J : (Int × List Bool) → Option R) : Option R :=
  laws_toBoolS_L3 n (fun (y0 : List Bool) => K (.exit 0) (stOf (T := T) [3] [3000000] [.one (.own 3000000 4 false)] [.arr 4 false] ((), ()) (y0, ()))) (fun z0 z1 => J (z0, z1)) c x.1 x.2
def laws_toBoolS_3_sp (n : Nat) : LSpec T := mkSpec T ⟨[((.reg 3), 3000000, 4)], [0, 3, 4], [3000000]⟩ laws_toBoolS_3_sv laws_toBoolS_3_so (List Bool) (Int × List Bool) laws_toBoolS_3_emb laws_toBoolS_3_prj (laws_toBoolS_3_b n)
noncomputable def laws_toBoolS_3_c : Code := ((loopCodes laws_toBoolS_code)[0]?).getD .skip
def laws_toBoolS_ann : Ann := fun id => bif Nat.beq id 3000003 then some ⟨[((.reg 3), 3000000, 4)], [3], [3000000]⟩ else none
def laws_toBoolS_Ls (n : Nat) : Nat → Option (LSpec T) := fun id => bif Nat.beq id 3 then some (laws_toBoolS_3_sp n) else none
theorem laws_toBoolS_3_le (n : Nat) : LoopEq (T := T) (Phi n 4) (laws_toBoolS_Ls n) laws_toBoolS_ann n laws_toBoolS_3_c (laws_toBoolS_3_sp n) := ⟨mkSpec_dec (fun y => rfl), fun c x => by kernel_rfl, fun K J c x => by kernel_rfl⟩
theorem laws_toBoolS_tie (n : Nat) (a0 : List Bool) : evF (T := T) (Phi n 4) (laws_toBoolS_Ls n) laws_toBoolS_ann n Try.f76 (sg 76) [vA T 55 a0] laws_toBoolS_dec = laws_toBoolS n a0 := by kernel_rfl
theorem laws_toBoolS_lo (n : Nat) : LoopsOk (T := T) (Phi n 4) (laws_toBoolS_Ls n) laws_toBoolS_ann n laws_toBoolS_code := loopsOk_all (cs := [laws_toBoolS_3_c]) (by kernel_rfl) ⟨⟨_, by kernel_rfl, laws_toBoolS_3_le n⟩, trivial⟩
theorem laws_toBoolS_ok (n : Nat) : EntOk Try.prog (ents n) (laws_toBoolS_ent n) := by
  intro hs ar y hg h
  replace h : laws_toBoolS_D n ar = some y := h
  unfold laws_toBoolS_D at h
  replace h := ocons_some h
  obtain ⟨a0, r0, rfl, h⟩ := h
  replace h := onil_some h
  obtain ⟨rfl, h⟩ := h
  obtain ⟨a0, qh0, h⟩ := obind_some h
  rw [argV_eq ok qh0]
  exact call_of (phiE_nat _ _) hs ok mixed Try.func76 (c := laws_toBoolS_code) (by kernel_rfl) (laws_toBoolS_lo n) (by kernel_rfl) (by kernel_rfl) (by kernel_rfl) laws_toBoolS_de ((laws_toBoolS_tie n a0).trans h)
noncomputable def spec_l21Texts_code : Code := match Try.f224.body with | some c => c | none => .skip
def spec_l21Texts_2_sv : List Sv := [.one (.arr 9), .one (.int .i64)]
def spec_l21Texts_2_so : List So := []
def spec_l21Texts_2_emb (c : List ByteArray) (x : Int) : EVs T spec_l21Texts_2_sv × EOs T spec_l21Texts_2_so := ((c, x, ()), ())
def spec_l21Texts_2_prj (y : EVs T spec_l21Texts_2_sv × EOs T spec_l21Texts_2_so) : List ByteArray × Int := ((y.1.1), (y.1.2.1))
def spec_l21Texts_2_b (n : Nat) {R : Type} (K : Ex → Sm.St T → Option R) (c : List ByteArray) (x : Int) (J : Int → Option R) : Option R :=
  spec_l21Texts_L2 n (K (.exit 0) (stOf (T := T) [0] [] [.one (.arr 9)] [] (c, ()) ())) (fun (y0 : Bool) => K .ret (stOf (T := T) [2] [] [.one (.bool)] [] (y0, ()) ())) J c x
def spec_l21Texts_2_sp (n : Nat) : LSpec T := mkSpec T ⟨[], [0, 3], []⟩ spec_l21Texts_2_sv spec_l21Texts_2_so (List ByteArray) (Int) spec_l21Texts_2_emb spec_l21Texts_2_prj (spec_l21Texts_2_b n)
noncomputable def spec_l21Texts_2_c : Code := ((loopCodes spec_l21Texts_code)[0]?).getD .skip
def spec_l21Texts_ann : Ann := fun id => bif Nat.beq id 3000002 then some ⟨[], [0], []⟩ else bif Nat.beq id 2000002 then some ⟨[], [2], []⟩ else none
def spec_l21Texts_Ls (n : Nat) : Nat → Option (LSpec T) := fun id => bif Nat.beq id 2 then some (spec_l21Texts_2_sp n) else none
theorem spec_l21Texts_2_le (n : Nat) : LoopEq (T := T) (Phi n 5) (spec_l21Texts_Ls n) spec_l21Texts_ann n spec_l21Texts_2_c (spec_l21Texts_2_sp n) := ⟨mkSpec_dec (fun y => rfl), fun c x => by kernel_rfl, fun K J c x => by kernel_rfl⟩
theorem spec_l21Texts_tie (n : Nat) (list0 : List ByteArray) : evF (T := T) (Phi n 5) (spec_l21Texts_Ls n) spec_l21Texts_ann n Try.f224 (sg 224) [vA T 104 list0] spec_l21Texts_dec = spec_l21Texts n list0 := by kernel_rfl
theorem spec_l21Texts_lo (n : Nat) : LoopsOk (T := T) (Phi n 5) (spec_l21Texts_Ls n) spec_l21Texts_ann n spec_l21Texts_code := loopsOk_all (cs := [spec_l21Texts_2_c]) (by kernel_rfl) ⟨⟨_, by kernel_rfl, spec_l21Texts_2_le n⟩, trivial⟩
theorem spec_l21Texts_ok (n : Nat) : EntOk Try.prog (ents n) (spec_l21Texts_ent n) := by
  intro hs ar y hg h
  replace h : spec_l21Texts_D n ar = some y := h
  unfold spec_l21Texts_D at h
  replace h := ocons_some h
  obtain ⟨a0, r0, rfl, h⟩ := h
  replace h := onil_some h
  obtain ⟨rfl, h⟩ := h
  obtain ⟨list0, qh0, h⟩ := obind_some h
  rw [argV_eq ok qh0]
  exact call_of (phiE_nat _ _) hs ok mixed Try.func224 (c := spec_l21Texts_code) (by kernel_rfl) (spec_l21Texts_lo n) (by kernel_rfl) (by kernel_rfl) (by kernel_rfl) spec_l21Texts_de ((spec_l21Texts_tie n list0).trans h)
noncomputable def spec_l1In_code : Code := match Try.f101.body with | some c => c | none => .skip
def spec_l1In_ann : Ann := fun id => none
def spec_l1In_Ls (n : Nat) : Nat → Option (LSpec T) := fun id => none
theorem spec_l1In_tie (n : Nat) (x0 : Int) (a1 : Int) (b2 : Int) : evF (T := T) (Phi n 6) (spec_l1In_Ls n) spec_l1In_ann n Try.f101 (sg 101) [vA T 3 x0, vA T 3 a1, vA T 3 b2] spec_l1In_dec = spec_l1In n x0 a1 b2 := by kernel_rfl
theorem spec_l1In_lo (n : Nat) : LoopsOk (T := T) (Phi n 6) (spec_l1In_Ls n) spec_l1In_ann n spec_l1In_code := loopsOk_all (cs := []) (by kernel_rfl) trivial
theorem spec_l1In_ok (n : Nat) : EntOk Try.prog (ents n) (spec_l1In_ent n) := by
  intro hs ar y hg h
  replace h : spec_l1In_D n ar = some y := h
  unfold spec_l1In_D at h
  replace h := ocons_some h
  obtain ⟨a0, r0, rfl, h⟩ := h
  replace h := ocons_some h
  obtain ⟨a1, r1, rfl, h⟩ := h
  replace h := ocons_some h
  obtain ⟨a2, r2, rfl, h⟩ := h
  replace h := onil_some h
  obtain ⟨rfl, h⟩ := h
  obtain ⟨x0, qh0, h⟩ := obind_some h
  obtain ⟨a1, qh1, h⟩ := obind_some h
  obtain ⟨b2, qh2, h⟩ := obind_some h
  rw [argV_eq ok qh0, argV_eq ok qh1, argV_eq ok qh2]
  exact call_of (phiE_nat _ _) hs ok mixed Try.func101 (c := spec_l1In_code) (by kernel_rfl) (spec_l1In_lo n) (by kernel_rfl) (by kernel_rfl) (by kernel_rfl) spec_l1In_de ((spec_l1In_tie n x0 a1 b2).trans h)
noncomputable def spec_PartyOk_code : Code := match Try.f157.body with | some c => c | none => .skip
def spec_PartyOk_ann : Ann := fun id => none
def spec_PartyOk_Ls (n : Nat) : Nat → Option (LSpec T) := fun id => none
theorem spec_PartyOk_tie (n : Nat) (p0 : SParty) : evF (T := T) (Phi n 7) (spec_PartyOk_Ls n) spec_PartyOk_ann n Try.f157 (sg 157) [vA T 108 p0] spec_PartyOk_dec = spec_PartyOk n p0 := by kernel_rfl
theorem spec_PartyOk_lo (n : Nat) : LoopsOk (T := T) (Phi n 7) (spec_PartyOk_Ls n) spec_PartyOk_ann n spec_PartyOk_code := loopsOk_all (cs := []) (by kernel_rfl) trivial
theorem spec_PartyOk_ok (n : Nat) : EntOk Try.prog (ents n) (spec_PartyOk_ent n) := by
  intro hs ar y hg h
  replace h : spec_PartyOk_D n ar = some y := h
  unfold spec_PartyOk_D at h
  replace h := ocons_some h
  obtain ⟨a0, r0, rfl, h⟩ := h
  replace h := onil_some h
  obtain ⟨rfl, h⟩ := h
  obtain ⟨p0, qh0, h⟩ := obind_some h
  rw [argV_eq ok qh0]
  exact call_of (phiE_nat _ _) hs ok mixed Try.func157 (c := spec_PartyOk_code) (by kernel_rfl) (spec_PartyOk_lo n) (by kernel_rfl) (by kernel_rfl) (by kernel_rfl) spec_PartyOk_de ((spec_PartyOk_tie n p0).trans h)
noncomputable def spec_l21Begins_code : Code := match Try.f158.body with | some c => c | none => .skip
def spec_l21Begins_2_sv : List Sv := [.one (.arr 9), .one (.arr 9), .one (.int .i64)]
def spec_l21Begins_2_so : List So := []
def spec_l21Begins_2_emb (c : List ByteArray × List ByteArray) (x : Int) : EVs T spec_l21Begins_2_sv × EOs T spec_l21Begins_2_so := ((c.1, c.2, x, ()), ())
def spec_l21Begins_2_prj (y : EVs T spec_l21Begins_2_sv × EOs T spec_l21Begins_2_so) : (List ByteArray × List ByteArray) × Int := ((y.1.1, y.1.2.1), (y.1.2.2.1))
def spec_l21Begins_2_b (n : Nat) {R : Type} (K : Ex → Sm.St T → Option R) (c : List ByteArray × List ByteArray) (x : Int) (J : Int → Option R) : Option R :=
  spec_l21Begins_L2 n (K (.exit 0) (stOf (T := T) [] [] [] [] () ())) (fun (y0 : Bool) => K .ret (stOf (T := T) [4] [] [.one (.bool)] [] (y0, ()) ())) J c.1 c.2 x
def spec_l21Begins_2_sp (n : Nat) : LSpec T := mkSpec T ⟨[], [0, 1, 5], []⟩ spec_l21Begins_2_sv spec_l21Begins_2_so (List ByteArray × List ByteArray) (Int) spec_l21Begins_2_emb spec_l21Begins_2_prj (spec_l21Begins_2_b n)
noncomputable def spec_l21Begins_2_c : Code := ((loopCodes spec_l21Begins_code)[0]?).getD .skip
def spec_l21Begins_ann : Ann := fun id => bif Nat.beq id 3000002 then some ⟨[], [], []⟩ else bif Nat.beq id 2000002 then some ⟨[], [4], []⟩ else none
def spec_l21Begins_Ls (n : Nat) : Nat → Option (LSpec T) := fun id => bif Nat.beq id 2 then some (spec_l21Begins_2_sp n) else none
theorem spec_l21Begins_2_le (n : Nat) : LoopEq (T := T) (Phi n 8) (spec_l21Begins_Ls n) spec_l21Begins_ann n spec_l21Begins_2_c (spec_l21Begins_2_sp n) := ⟨mkSpec_dec (fun y => rfl), fun c x => by kernel_rfl, fun K J c x => by kernel_rfl⟩
theorem spec_l21Begins_tie (n : Nat) (part0 : List ByteArray) (whole1 : List ByteArray) : evF (T := T) (Phi n 8) (spec_l21Begins_Ls n) spec_l21Begins_ann n Try.f158 (sg 158) [vA T 104 part0, vA T 104 whole1] spec_l21Begins_dec = spec_l21Begins n part0 whole1 := by kernel_rfl
theorem spec_l21Begins_lo (n : Nat) : LoopsOk (T := T) (Phi n 8) (spec_l21Begins_Ls n) spec_l21Begins_ann n spec_l21Begins_code := loopsOk_all (cs := [spec_l21Begins_2_c]) (by kernel_rfl) ⟨⟨_, by kernel_rfl, spec_l21Begins_2_le n⟩, trivial⟩
theorem spec_l21Begins_ok (n : Nat) : EntOk Try.prog (ents n) (spec_l21Begins_ent n) := by
  intro hs ar y hg h
  replace h : spec_l21Begins_D n ar = some y := h
  unfold spec_l21Begins_D at h
  replace h := ocons_some h
  obtain ⟨a0, r0, rfl, h⟩ := h
  replace h := ocons_some h
  obtain ⟨a1, r1, rfl, h⟩ := h
  replace h := onil_some h
  obtain ⟨rfl, h⟩ := h
  obtain ⟨part0, qh0, h⟩ := obind_some h
  obtain ⟨whole1, qh1, h⟩ := obind_some h
  rw [argV_eq ok qh0, argV_eq ok qh1]
  exact call_of (phiE_nat _ _) hs ok mixed Try.func158 (c := spec_l21Begins_code) (by kernel_rfl) (spec_l21Begins_lo n) (by kernel_rfl) (by kernel_rfl) (by kernel_rfl) spec_l21Begins_de ((spec_l21Begins_tie n part0 whole1).trans h)
noncomputable def spec_l21Copy_code : Code := match Try.f159.body with | some c => c | none => .skip
def spec_l21Copy_ann : Ann := fun id => none
def spec_l21Copy_Ls (n : Nat) : Nat → Option (LSpec T) := fun id => none
theorem spec_l21Copy_tie (n : Nat) (p0 : SParty) : evF (T := T) (Phi n 9) (spec_l21Copy_Ls n) spec_l21Copy_ann n Try.f159 (sg 159) [vA T 108 p0] spec_l21Copy_dec = spec_l21Copy n p0 := by kernel_rfl
theorem spec_l21Copy_lo (n : Nat) : LoopsOk (T := T) (Phi n 9) (spec_l21Copy_Ls n) spec_l21Copy_ann n spec_l21Copy_code := loopsOk_all (cs := []) (by kernel_rfl) trivial
theorem spec_l21Copy_ok (n : Nat) : EntOk Try.prog (ents n) (spec_l21Copy_ent n) := by
  intro hs ar y hg h
  replace h : spec_l21Copy_D n ar = some y := h
  unfold spec_l21Copy_D at h
  replace h := ocons_some h
  obtain ⟨a0, r0, rfl, h⟩ := h
  replace h := onil_some h
  obtain ⟨rfl, h⟩ := h
  obtain ⟨p0, qh0, h⟩ := obind_some h
  rw [argV_eq ok qh0]
  exact call_of (phiE_nat _ _) hs ok mixed Try.func159 (c := spec_l21Copy_code) (by kernel_rfl) (spec_l21Copy_lo n) (by kernel_rfl) (by kernel_rfl) (by kernel_rfl) spec_l21Copy_de ((spec_l21Copy_tie n p0).trans h)
noncomputable def spec_Again21_code : Code := match Try.f160.body with | some c => c | none => .skip
def spec_Again21_5_sv : List Sv := [.one (.int .i64), .one (.ptr 16 0 0), .one (.own 3000000 221 false), .one (.int .i64)]
def spec_Again21_5_so : List So := [.var [.arr 9, .int .i64, .arr 9], .arr 221 false]
def spec_Again21_5_emb (c : Int × SParty) (x : Int × List SPost) : EVs T spec_Again21_5_sv × EOs T spec_Again21_5_so := ((c.1, (), (), x.1, ()), ((c.2.Sent, c.2.Acked, c.2.Got, ()), x.2, ()))
def spec_Again21_5_prj (y : EVs T spec_Again21_5_sv × EOs T spec_Again21_5_so) : (Int × SParty) × (Int × List SPost) := ((y.1.1, ((⟨y.2.1.1, y.2.1.2.1, y.2.1.2.2.1⟩ : SParty) : SParty)), (y.1.2.2.2.1, y.2.2.1))
def spec_Again21_5_b (n : Nat) {R : Type} (K : Ex → Sm.St T → Option R) (c : Int × SParty) (x : Int × List SPost) (J : (Int × List SPost) → Option R) : Option R :=
  spec_Again21_L5 n (fun (y2 : List SPost) => K (.exit 0) (stOf (T := T) [1, 2, 6] [16, 3000000] [.one (.int .i64), .one (.ptr 16 0 0), .one (.own 3000000 221 false)] [.var [.arr 9, .int .i64, .arr 9], .arr 221 false] (c.1, (), (), ()) ((c.2.Sent, c.2.Acked, c.2.Got, ()), y2, ()))) (fun z0 z1 => J (z0, z1)) c.1 x.1 c.2 x.2
def spec_Again21_5_sp (n : Nat) : LSpec T := mkSpec T ⟨[((.reg 6), 3000000, 221)], [1, 2, 6, 7], [16, 3000000]⟩ spec_Again21_5_sv spec_Again21_5_so (Int × SParty) (Int × List SPost) spec_Again21_5_emb spec_Again21_5_prj (spec_Again21_5_b n)
noncomputable def spec_Again21_5_c : Code := ((loopCodes spec_Again21_code)[0]?).getD .skip
def spec_Again21_ann : Ann := fun id => bif Nat.beq id 3000005 then some ⟨[((.reg 6), 3000000, 221)], [1, 2, 6], [16, 3000000]⟩ else none
def spec_Again21_Ls (n : Nat) : Nat → Option (LSpec T) := fun id => bif Nat.beq id 5 then some (spec_Again21_5_sp n) else none
theorem spec_Again21_5_le (n : Nat) : LoopEq (T := T) (Phi n 10) (spec_Again21_Ls n) spec_Again21_ann n spec_Again21_5_c (spec_Again21_5_sp n) := ⟨mkSpec_dec (fun y => rfl), fun c x => by kernel_rfl, fun K J c x => by kernel_rfl⟩
theorem spec_Again21_tie (n : Nat) (p0 : SParty) (who1 : Int) : evF (T := T) (Phi n 10) (spec_Again21_Ls n) spec_Again21_ann n Try.f160 (sg 160) [vA T 108 p0, vA T 3 who1] spec_Again21_dec = spec_Again21 n p0 who1 := by kernel_rfl
theorem spec_Again21_lo (n : Nat) : LoopsOk (T := T) (Phi n 10) (spec_Again21_Ls n) spec_Again21_ann n spec_Again21_code := loopsOk_all (cs := [spec_Again21_5_c]) (by kernel_rfl) ⟨⟨_, by kernel_rfl, spec_Again21_5_le n⟩, trivial⟩
theorem spec_Again21_ok (n : Nat) : EntOk Try.prog (ents n) (spec_Again21_ent n) := by
  intro hs ar y hg h
  replace h : spec_Again21_D n ar = some y := h
  unfold spec_Again21_D at h
  replace h := ocons_some h
  obtain ⟨a0, r0, rfl, h⟩ := h
  replace h := ocons_some h
  obtain ⟨a1, r1, rfl, h⟩ := h
  replace h := onil_some h
  obtain ⟨rfl, h⟩ := h
  obtain ⟨p0, qh0, h⟩ := obind_some h
  obtain ⟨who1, qh1, h⟩ := obind_some h
  rw [argV_eq ok qh0, argV_eq ok qh1]
  exact call_of (phiE_nat _ _) hs ok mixed Try.func160 (c := spec_Again21_code) (by kernel_rfl) (spec_Again21_lo n) (by kernel_rfl) (by kernel_rfl) (by kernel_rfl) spec_Again21_de ((spec_Again21_tie n p0 who1).trans h)
noncomputable def spec_Take21_code : Code := match Try.f161.body with | some c => c | none => .skip
def spec_Take21_ann : Ann := fun id => none
def spec_Take21_Ls (n : Nat) : Nat → Option (LSpec T) := fun id => none
theorem spec_Take21_tie (n : Nat) (p0 : SParty) (who1 : Int) (post2 : SPost) : evF (T := T) (Phi n 11) (spec_Take21_Ls n) spec_Take21_ann n Try.f161 (sg 161) [vA T 108 p0, vA T 3 who1, vA T 221 post2] spec_Take21_dec = spec_Take21 n p0 who1 post2 := by kernel_rfl
theorem spec_Take21_lo (n : Nat) : LoopsOk (T := T) (Phi n 11) (spec_Take21_Ls n) spec_Take21_ann n spec_Take21_code := loopsOk_all (cs := []) (by kernel_rfl) trivial
theorem spec_Take21_ok (n : Nat) : EntOk Try.prog (ents n) (spec_Take21_ent n) := by
  intro hs ar y hg h
  replace h : spec_Take21_D n ar = some y := h
  unfold spec_Take21_D at h
  replace h := ocons_some h
  obtain ⟨a0, r0, rfl, h⟩ := h
  replace h := ocons_some h
  obtain ⟨a1, r1, rfl, h⟩ := h
  replace h := ocons_some h
  obtain ⟨a2, r2, rfl, h⟩ := h
  replace h := onil_some h
  obtain ⟨rfl, h⟩ := h
  obtain ⟨p0, qh0, h⟩ := obind_some h
  obtain ⟨who1, qh1, h⟩ := obind_some h
  obtain ⟨post2, qh2, h⟩ := obind_some h
  rw [argV_eq ok qh0, argV_eq ok qh1, argV_eq ok qh2]
  exact call_of (phiE_nat _ _) hs ok mixed Try.func161 (c := spec_Take21_code) (by kernel_rfl) (spec_Take21_lo n) (by kernel_rfl) (by kernel_rfl) (by kernel_rfl) spec_Take21_de ((spec_Take21_tie n p0 who1 post2).trans h)
noncomputable def spec_Settle21_code : Code := match Try.f74.body with | some c => c | none => .skip
def spec_Settle21_6_sv : List Sv := [.one (.arr 4), .one (.int .i64), .one (.ptr 64 0 0), .one (.ptr 72 0 0), .one (.ptr 88 0 0), .one (.ptr 96 0 0), .one (.int .i64), .one (.int .i64)]
def spec_Settle21_6_so : List So := [.var [.own 3000000 9 false, .int .i64, .own 3000001 9 false], .arr 9 false, .arr 9 false, .var [.own 3000002 9 false, .int .i64, .own 3000003 9 false], .arr 9 false, .arr 9 false, .var [.own 3000004 9 false, .int .i64, .own 3000005 9 false], .arr 9 false, .arr 9 false, .var [.own 3000006 9 false, .int .i64, .own 3000007 9 false], .arr 9 false, .arr 9 false]
def spec_Settle21_6_emb (c : List Bool × Int × Int × List ByteArray × List ByteArray × Int × List ByteArray × List ByteArray) (x : Int × Int × Int × List ByteArray × List ByteArray × Int × List ByteArray × List ByteArray) : EVs T spec_Settle21_6_sv × EOs T spec_Settle21_6_so := ((c.1, c.2.1, (), (), (), (), x.1, x.2.1, ()), (((), c.2.2.1, (), ()), c.2.2.2.1, c.2.2.2.2.1, ((), c.2.2.2.2.2.1, (), ()), c.2.2.2.2.2.2.1, c.2.2.2.2.2.2.2, ((), x.2.2.1, (), ()), x.2.2.2.1, x.2.2.2.2.1, ((), x.2.2.2.2.2.1, (), ()), x.2.2.2.2.2.2.1, x.2.2.2.2.2.2.2, ()))
def spec_Settle21_6_prj (y : EVs T spec_Settle21_6_sv × EOs T spec_Settle21_6_so) : (List Bool × Int × Int × List ByteArray × List ByteArray × Int × List ByteArray × List ByteArray) × (Int × Int × Int × List ByteArray × List ByteArray × Int × List ByteArray × List ByteArray) := ((y.1.1, y.1.2.1, y.2.1.2.1, y.2.2.1, y.2.2.2.1, y.2.2.2.2.1.2.1, y.2.2.2.2.2.1, y.2.2.2.2.2.2.1), (y.1.2.2.2.2.2.2.1, y.1.2.2.2.2.2.2.2.1, y.2.2.2.2.2.2.2.1.2.1, y.2.2.2.2.2.2.2.2.1, y.2.2.2.2.2.2.2.2.2.1, y.2.2.2.2.2.2.2.2.2.2.1.2.1, y.2.2.2.2.2.2.2.2.2.2.2.1, y.2.2.2.2.2.2.2.2.2.2.2.2.1))
def spec_Settle21_6_b (n : Nat) {R : Type} (K : Ex → Sm.St T → Option R) (c : List Bool × Int × Int × List ByteArray × List ByteArray × Int × List ByteArray × List ByteArray) (x : Int × Int × Int × List ByteArray × List ByteArray × Int × List ByteArray × List ByteArray) (J : (Int × Int × Int × List ByteArray × List ByteArray × Int × List ByteArray × List ByteArray) → Option R) : Option R :=
  spec_Settle21_L6 n (fun (y6 : Int) (y7 : List ByteArray) (y8 : List ByteArray) (y9 : Int) (y10 : List ByteArray) (y11 : List ByteArray) => K (.exit 0) (stOf (T := T) [8, 9, 11, 12] [64, 3000000, 3000001, 72, 3000002, 3000003, 88, 3000004, 3000005, 96, 3000006, 3000007] [.one (.ptr 64 0 0), .one (.ptr 72 0 0), .one (.ptr 88 0 0), .one (.ptr 96 0 0)] [.var [.own 3000000 9 false, .int .i64, .own 3000001 9 false], .arr 9 false, .arr 9 false, .var [.own 3000002 9 false, .int .i64, .own 3000003 9 false], .arr 9 false, .arr 9 false, .var [.own 3000004 9 false, .int .i64, .own 3000005 9 false], .arr 9 false, .arr 9 false, .var [.own 3000006 9 false, .int .i64, .own 3000007 9 false], .arr 9 false, .arr 9 false] ((), (), (), (), ()) (((), c.2.2.1, (), ()), c.2.2.2.1, c.2.2.2.2.1, ((), c.2.2.2.2.2.1, (), ()), c.2.2.2.2.2.2.1, c.2.2.2.2.2.2.2, ((), y6, (), ()), y7, y8, ((), y9, (), ()), y10, y11, ()))) (fun z0 z1 z2 z3 z4 z5 z6 z7 => J (z0, z1, z2, z3, z4, z5, z6, z7)) c.1 c.2.1 x.1 x.2.1 c.2.2.1 c.2.2.2.1 c.2.2.2.2.1 c.2.2.2.2.2.1 c.2.2.2.2.2.2.1 c.2.2.2.2.2.2.2 x.2.2.1 x.2.2.2.1 x.2.2.2.2.1 x.2.2.2.2.2.1 x.2.2.2.2.2.2.1 x.2.2.2.2.2.2.2
def spec_Settle21_6_sp (n : Nat) : LSpec T := mkSpec T ⟨[((.cell 64 0), 3000000, 9), ((.cell 64 2), 3000001, 9), ((.cell 72 0), 3000002, 9), ((.cell 72 2), 3000003, 9), ((.cell 88 0), 3000004, 9), ((.cell 88 2), 3000005, 9), ((.cell 96 0), 3000006, 9), ((.cell 96 2), 3000007, 9)], [2, 3, 8, 9, 11, 12, 13, 14], [64, 3000000, 3000001, 72, 3000002, 3000003, 88, 3000004, 3000005, 96, 3000006, 3000007]⟩ spec_Settle21_6_sv spec_Settle21_6_so (List Bool × Int × Int × List ByteArray × List ByteArray × Int × List ByteArray × List ByteArray) (Int × Int × Int × List ByteArray × List ByteArray × Int × List ByteArray × List ByteArray) spec_Settle21_6_emb spec_Settle21_6_prj (spec_Settle21_6_b n)
noncomputable def spec_Settle21_6_c : Code := ((loopCodes spec_Settle21_code)[0]?).getD .skip
def spec_Settle21_9_sv : List Sv := [.one (.arr 4), .one (.int .i64), .one (.ptr 64 0 0), .one (.ptr 72 0 0), .one (.ptr 88 0 0), .one (.ptr 96 0 0), .one (.int .i64), .one (.int .i64), .one (.int .i64)]
def spec_Settle21_9_so : List So := [.var [.own 3000000 9 false, .int .i64, .own 3000001 9 false], .arr 9 false, .arr 9 false, .var [.own 3000002 9 false, .int .i64, .own 3000003 9 false], .arr 9 false, .arr 9 false, .var [.own 3000004 9 false, .int .i64, .own 3000005 9 false], .arr 9 false, .arr 9 false, .var [.own 3000006 9 false, .int .i64, .own 3000007 9 false], .arr 9 false, .arr 9 false]
def spec_Settle21_9_emb (c : List Bool × Int × Int × Int × List ByteArray × List ByteArray × Int × List ByteArray × List ByteArray) (x : Int × Int × Int × List ByteArray × List ByteArray × Int × List ByteArray × List ByteArray) : EVs T spec_Settle21_9_sv × EOs T spec_Settle21_9_so := ((c.1, c.2.1, (), (), (), (), x.1, c.2.2.1, x.2.1, ()), (((), c.2.2.2.1, (), ()), c.2.2.2.2.1, c.2.2.2.2.2.1, ((), c.2.2.2.2.2.2.1, (), ()), c.2.2.2.2.2.2.2.1, c.2.2.2.2.2.2.2.2, ((), x.2.2.1, (), ()), x.2.2.2.1, x.2.2.2.2.1, ((), x.2.2.2.2.2.1, (), ()), x.2.2.2.2.2.2.1, x.2.2.2.2.2.2.2, ()))
def spec_Settle21_9_prj (y : EVs T spec_Settle21_9_sv × EOs T spec_Settle21_9_so) : (List Bool × Int × Int × Int × List ByteArray × List ByteArray × Int × List ByteArray × List ByteArray) × (Int × Int × Int × List ByteArray × List ByteArray × Int × List ByteArray × List ByteArray) := ((y.1.1, y.1.2.1, y.1.2.2.2.2.2.2.2.1, y.2.1.2.1, y.2.2.1, y.2.2.2.1, y.2.2.2.2.1.2.1, y.2.2.2.2.2.1, y.2.2.2.2.2.2.1), (y.1.2.2.2.2.2.2.1, y.1.2.2.2.2.2.2.2.2.1, y.2.2.2.2.2.2.2.1.2.1, y.2.2.2.2.2.2.2.2.1, y.2.2.2.2.2.2.2.2.2.1, y.2.2.2.2.2.2.2.2.2.2.1.2.1, y.2.2.2.2.2.2.2.2.2.2.2.1, y.2.2.2.2.2.2.2.2.2.2.2.2.1))
def spec_Settle21_9_b (n : Nat) {R : Type} (K : Ex → Sm.St T → Option R) (c : List Bool × Int × Int × Int × List ByteArray × List ByteArray × Int × List ByteArray × List ByteArray) (x : Int × Int × Int × List ByteArray × List ByteArray × Int × List ByteArray × List ByteArray) (J : (Int × Int × Int × List ByteArray × List ByteArray × Int × List ByteArray × List ByteArray) → Option R) : Option R :=
  spec_Settle21_L9 n (fun (y2 : Int) (y10 : Int) (y11 : List ByteArray) (y12 : List ByteArray) (y13 : Int) (y14 : List ByteArray) (y15 : List ByteArray) => K (.exit 2) (stOf (T := T) [2, 3, 8, 9, 11, 12, 13, 14] [64, 3000000, 3000001, 72, 3000002, 3000003, 88, 3000004, 3000005, 96, 3000006, 3000007] [.one (.arr 4), .one (.int .i64), .one (.ptr 64 0 0), .one (.ptr 72 0 0), .one (.ptr 88 0 0), .one (.ptr 96 0 0), .one (.int .i64), .one (.int .i64)] [.var [.own 3000000 9 false, .int .i64, .own 3000001 9 false], .arr 9 false, .arr 9 false, .var [.own 3000002 9 false, .int .i64, .own 3000003 9 false], .arr 9 false, .arr 9 false, .var [.own 3000004 9 false, .int .i64, .own 3000005 9 false], .arr 9 false, .arr 9 false, .var [.own 3000006 9 false, .int .i64, .own 3000007 9 false], .arr 9 false, .arr 9 false] (c.1, c.2.1, (), (), (), (), y2, c.2.2.1, ()) (((), c.2.2.2.1, (), ()), c.2.2.2.2.1, c.2.2.2.2.2.1, ((), c.2.2.2.2.2.2.1, (), ()), c.2.2.2.2.2.2.2.1, c.2.2.2.2.2.2.2.2, ((), y10, (), ()), y11, y12, ((), y13, (), ()), y14, y15, ()))) (fun z0 z1 z2 z3 z4 z5 z6 z7 => J (z0, z1, z2, z3, z4, z5, z6, z7)) c.1 c.2.1 x.1 c.2.2.1 x.2.1 c.2.2.2.1 c.2.2.2.2.1 c.2.2.2.2.2.1 c.2.2.2.2.2.2.1 c.2.2.2.2.2.2.2.1 c.2.2.2.2.2.2.2.2 x.2.2.1 x.2.2.2.1 x.2.2.2.2.1 x.2.2.2.2.2.1 x.2.2.2.2.2.2.1 x.2.2.2.2.2.2.2
def spec_Settle21_9_sp (n : Nat) : LSpec T := mkSpec T ⟨[((.cell 64 0), 3000000, 9), ((.cell 64 2), 3000001, 9), ((.cell 72 0), 3000002, 9), ((.cell 72 2), 3000003, 9), ((.cell 88 0), 3000004, 9), ((.cell 88 2), 3000005, 9), ((.cell 96 0), 3000006, 9), ((.cell 96 2), 3000007, 9)], [2, 3, 8, 9, 11, 12, 13, 14, 15], [64, 3000000, 3000001, 72, 3000002, 3000003, 88, 3000004, 3000005, 96, 3000006, 3000007]⟩ spec_Settle21_9_sv spec_Settle21_9_so (List Bool × Int × Int × Int × List ByteArray × List ByteArray × Int × List ByteArray × List ByteArray) (Int × Int × Int × List ByteArray × List ByteArray × Int × List ByteArray × List ByteArray) spec_Settle21_9_emb spec_Settle21_9_prj (spec_Settle21_9_b n)
noncomputable def spec_Settle21_9_c : Code := ((loopCodes spec_Settle21_code)[1]?).getD .skip
def spec_Settle21_16_sv : List Sv := [.one (.arr 4), .one (.int .i64), .one (.ptr 64 0 0), .one (.ptr 72 0 0), .one (.ptr 88 0 0), .one (.ptr 96 0 0), .one (.int .i64), .one (.int .i64), .one (.int .i64), .one (.own 3000008 221 false), .one (.int .i64)]
def spec_Settle21_16_so : List So := [.var [.own 3000000 9 false, .int .i64, .own 3000001 9 false], .arr 9 false, .arr 9 false, .var [.own 3000002 9 false, .int .i64, .own 3000003 9 false], .arr 9 false, .arr 9 false, .var [.own 3000004 9 false, .int .i64, .own 3000005 9 false], .arr 9 false, .arr 9 false, .var [.own 3000006 9 false, .int .i64, .own 3000007 9 false], .arr 9 false, .arr 9 false, .arr 221 false]
def spec_Settle21_16_emb (c : List Bool × Int × Int × Int × Int × List ByteArray × List ByteArray × Int × List ByteArray × List ByteArray × List SPost) (x : Int × Int × Int × List ByteArray × List ByteArray × Int × List ByteArray × List ByteArray) : EVs T spec_Settle21_16_sv × EOs T spec_Settle21_16_so := ((c.1, c.2.1, (), (), (), (), x.1, c.2.2.1, c.2.2.2.1, (), x.2.1, ()), (((), c.2.2.2.2.1, (), ()), c.2.2.2.2.2.1, c.2.2.2.2.2.2.1, ((), c.2.2.2.2.2.2.2.1, (), ()), c.2.2.2.2.2.2.2.2.1, c.2.2.2.2.2.2.2.2.2.1, ((), x.2.2.1, (), ()), x.2.2.2.1, x.2.2.2.2.1, ((), x.2.2.2.2.2.1, (), ()), x.2.2.2.2.2.2.1, x.2.2.2.2.2.2.2, c.2.2.2.2.2.2.2.2.2.2, ()))
def spec_Settle21_16_prj (y : EVs T spec_Settle21_16_sv × EOs T spec_Settle21_16_so) : (List Bool × Int × Int × Int × Int × List ByteArray × List ByteArray × Int × List ByteArray × List ByteArray × List SPost) × (Int × Int × Int × List ByteArray × List ByteArray × Int × List ByteArray × List ByteArray) := ((y.1.1, y.1.2.1, y.1.2.2.2.2.2.2.2.1, y.1.2.2.2.2.2.2.2.2.1, y.2.1.2.1, y.2.2.1, y.2.2.2.1, y.2.2.2.2.1.2.1, y.2.2.2.2.2.1, y.2.2.2.2.2.2.1, y.2.2.2.2.2.2.2.2.2.2.2.2.2.1), (y.1.2.2.2.2.2.2.1, y.1.2.2.2.2.2.2.2.2.2.2.1, y.2.2.2.2.2.2.2.1.2.1, y.2.2.2.2.2.2.2.2.1, y.2.2.2.2.2.2.2.2.2.1, y.2.2.2.2.2.2.2.2.2.2.1.2.1, y.2.2.2.2.2.2.2.2.2.2.2.1, y.2.2.2.2.2.2.2.2.2.2.2.2.1))
def spec_Settle21_16_b (n : Nat) {R : Type} (K : Ex → Sm.St T → Option R) (c : List Bool × Int × Int × Int × Int × List ByteArray × List ByteArray × Int × List ByteArray × List ByteArray × List SPost) (x : Int × Int × Int × List ByteArray × List ByteArray × Int × List ByteArray × List ByteArray) (J : (Int × Int × Int × List ByteArray × List ByteArray × Int × List ByteArray × List ByteArray) → Option R) : Option R :=
  spec_Settle21_L16 n (fun (y2 : Int) (y11 : Int) (y12 : List ByteArray) (y13 : List ByteArray) (y14 : Int) (y15 : List ByteArray) (y16 : List ByteArray) => K (.exit 4) (stOf (T := T) [2, 3, 8, 9, 11, 12, 13, 14, 15] [64, 3000000, 3000001, 72, 3000002, 3000003, 88, 3000004, 3000005, 96, 3000006, 3000007] [.one (.arr 4), .one (.int .i64), .one (.ptr 64 0 0), .one (.ptr 72 0 0), .one (.ptr 88 0 0), .one (.ptr 96 0 0), .one (.int .i64), .one (.int .i64), .one (.int .i64)] [.var [.own 3000000 9 false, .int .i64, .own 3000001 9 false], .arr 9 false, .arr 9 false, .var [.own 3000002 9 false, .int .i64, .own 3000003 9 false], .arr 9 false, .arr 9 false, .var [.own 3000004 9 false, .int .i64, .own 3000005 9 false], .arr 9 false, .arr 9 false, .var [.own 3000006 9 false, .int .i64, .own 3000007 9 false], .arr 9 false, .arr 9 false] (c.1, c.2.1, (), (), (), (), y2, c.2.2.1, c.2.2.2.1, ()) (((), c.2.2.2.2.1, (), ()), c.2.2.2.2.2.1, c.2.2.2.2.2.2.1, ((), c.2.2.2.2.2.2.2.1, (), ()), c.2.2.2.2.2.2.2.2.1, c.2.2.2.2.2.2.2.2.2.1, ((), y11, (), ()), y12, y13, ((), y14, (), ()), y15, y16, ()))) (fun z0 z1 z2 z3 z4 z5 z6 z7 => J (z0, z1, z2, z3, z4, z5, z6, z7)) c.1 c.2.1 x.1 c.2.2.1 c.2.2.2.1 x.2.1 c.2.2.2.2.1 c.2.2.2.2.2.1 c.2.2.2.2.2.2.1 c.2.2.2.2.2.2.2.1 c.2.2.2.2.2.2.2.2.1 c.2.2.2.2.2.2.2.2.2.1 x.2.2.1 x.2.2.2.1 x.2.2.2.2.1 x.2.2.2.2.2.1 x.2.2.2.2.2.2.1 x.2.2.2.2.2.2.2 c.2.2.2.2.2.2.2.2.2.2
def spec_Settle21_16_sp (n : Nat) : LSpec T := mkSpec T ⟨[((.reg 17), 3000008, 221), ((.cell 64 0), 3000000, 9), ((.cell 64 2), 3000001, 9), ((.cell 72 0), 3000002, 9), ((.cell 72 2), 3000003, 9), ((.cell 88 0), 3000004, 9), ((.cell 88 2), 3000005, 9), ((.cell 96 0), 3000006, 9), ((.cell 96 2), 3000007, 9)], [2, 3, 8, 9, 11, 12, 13, 14, 15, 17, 19], [64, 3000000, 3000001, 72, 3000002, 3000003, 88, 3000004, 3000005, 96, 3000006, 3000007, 3000008]⟩ spec_Settle21_16_sv spec_Settle21_16_so (List Bool × Int × Int × Int × Int × List ByteArray × List ByteArray × Int × List ByteArray × List ByteArray × List SPost) (Int × Int × Int × List ByteArray × List ByteArray × Int × List ByteArray × List ByteArray) spec_Settle21_16_emb spec_Settle21_16_prj (spec_Settle21_16_b n)
noncomputable def spec_Settle21_16_c : Code := ((loopCodes spec_Settle21_code)[2]?).getD .skip
def spec_Settle21_ann : Ann := fun id => bif Nat.beq id 3000006 then some ⟨[((.cell 64 0), 3000000, 9), ((.cell 64 2), 3000001, 9), ((.cell 72 0), 3000002, 9), ((.cell 72 2), 3000003, 9), ((.cell 88 0), 3000004, 9), ((.cell 88 2), 3000005, 9), ((.cell 96 0), 3000006, 9), ((.cell 96 2), 3000007, 9)], [8, 9, 11, 12], [64, 3000000, 3000001, 72, 3000002, 3000003, 88, 3000004, 3000005, 96, 3000006, 3000007]⟩ else bif Nat.beq id 5000009 then some ⟨[((.cell 64 0), 3000000, 9), ((.cell 64 2), 3000001, 9), ((.cell 72 0), 3000002, 9), ((.cell 72 2), 3000003, 9), ((.cell 88 0), 3000004, 9), ((.cell 88 2), 3000005, 9), ((.cell 96 0), 3000006, 9), ((.cell 96 2), 3000007, 9)], [2, 3, 8, 9, 11, 12, 13, 14], [64, 3000000, 3000001, 72, 3000002, 3000003, 88, 3000004, 3000005, 96, 3000006, 3000007]⟩ else bif Nat.beq id 7000016 then some ⟨[((.cell 64 0), 3000000, 9), ((.cell 64 2), 3000001, 9), ((.cell 72 0), 3000002, 9), ((.cell 72 2), 3000003, 9), ((.cell 88 0), 3000004, 9), ((.cell 88 2), 3000005, 9), ((.cell 96 0), 3000006, 9), ((.cell 96 2), 3000007, 9)], [2, 3, 8, 9, 11, 12, 13, 14, 15], [64, 3000000, 3000001, 72, 3000002, 3000003, 88, 3000004, 3000005, 96, 3000006, 3000007]⟩ else none
def spec_Settle21_Ls (n : Nat) : Nat → Option (LSpec T) := fun id => bif Nat.beq id 6 then some (spec_Settle21_6_sp n) else bif Nat.beq id 9 then some (spec_Settle21_9_sp n) else bif Nat.beq id 16 then some (spec_Settle21_16_sp n) else none
theorem spec_Settle21_6_le (n : Nat) : LoopEq (T := T) (Phi n 12) (spec_Settle21_Ls n) spec_Settle21_ann n spec_Settle21_6_c (spec_Settle21_6_sp n) := ⟨mkSpec_dec (fun y => rfl), fun c x => by kernel_rfl, fun K J c x => by kernel_rfl⟩
theorem spec_Settle21_9_le (n : Nat) : LoopEq (T := T) (Phi n 12) (spec_Settle21_Ls n) spec_Settle21_ann n spec_Settle21_9_c (spec_Settle21_9_sp n) := ⟨mkSpec_dec (fun y => rfl), fun c x => by kernel_rfl, fun K J c x => by kernel_rfl⟩
theorem spec_Settle21_16_le (n : Nat) : LoopEq (T := T) (Phi n 12) (spec_Settle21_Ls n) spec_Settle21_ann n spec_Settle21_16_c (spec_Settle21_16_sp n) := ⟨mkSpec_dec (fun y => rfl), fun c x => by kernel_rfl, fun K J c x => by kernel_rfl⟩
theorem spec_Settle21_tie (n : Nat) (a0 : SParty) (b1 : SParty) (lost2 : List Bool) (rounds3 : Int) : evF (T := T) (Phi n 12) (spec_Settle21_Ls n) spec_Settle21_ann n Try.f74 (sg 74) [vA T 108 a0, vA T 108 b1, vA T 55 lost2, vA T 3 rounds3] spec_Settle21_dec = spec_Settle21 n a0 b1 lost2 rounds3 := by kernel_rfl
theorem spec_Settle21_lo (n : Nat) : LoopsOk (T := T) (Phi n 12) (spec_Settle21_Ls n) spec_Settle21_ann n spec_Settle21_code := loopsOk_all (cs := [spec_Settle21_6_c, spec_Settle21_9_c, spec_Settle21_16_c]) (by kernel_rfl) ⟨⟨_, by kernel_rfl, spec_Settle21_6_le n⟩, ⟨_, by kernel_rfl, spec_Settle21_9_le n⟩, ⟨_, by kernel_rfl, spec_Settle21_16_le n⟩, trivial⟩
theorem spec_Settle21_ok (n : Nat) : EntOk Try.prog (ents n) (spec_Settle21_ent n) := by
  intro hs ar y hg h
  replace h : spec_Settle21_D n ar = some y := h
  unfold spec_Settle21_D at h
  replace h := ocons_some h
  obtain ⟨a0, r0, rfl, h⟩ := h
  replace h := ocons_some h
  obtain ⟨a1, r1, rfl, h⟩ := h
  replace h := ocons_some h
  obtain ⟨a2, r2, rfl, h⟩ := h
  replace h := ocons_some h
  obtain ⟨a3, r3, rfl, h⟩ := h
  replace h := onil_some h
  obtain ⟨rfl, h⟩ := h
  obtain ⟨a0, qh0, h⟩ := obind_some h
  obtain ⟨b1, qh1, h⟩ := obind_some h
  obtain ⟨lost2, qh2, h⟩ := obind_some h
  obtain ⟨rounds3, qh3, h⟩ := obind_some h
  rw [argV_eq ok qh0, argV_eq ok qh1, argV_eq ok qh2, argV_eq ok qh3]
  exact call_of (phiE_nat _ _) hs ok mixed Try.func74 (c := spec_Settle21_code) (by kernel_rfl) (spec_Settle21_lo n) (by kernel_rfl) (by kernel_rfl) (by kernel_rfl) spec_Settle21_de ((spec_Settle21_tie n a0 b1 lost2 rounds3).trans h)
noncomputable def impl_shortTexts_1_code : Code := match Try.f252.body with | some c => c | none => .skip
def impl_shortTexts_1_ann : Ann := fun id => none
def impl_shortTexts_1_Ls (n : Nat) : Nat → Option (LSpec T) := fun id => none
theorem impl_shortTexts_1_tie (n : Nat) (s0 : ByteArray) : evF (T := T) (Phi n 13) (impl_shortTexts_1_Ls n) impl_shortTexts_1_ann n Try.f252 (sg 252) [vA T 9 s0] impl_shortTexts_1_dec = impl_shortTexts_1 n s0 := by kernel_rfl
theorem impl_shortTexts_1_lo (n : Nat) : LoopsOk (T := T) (Phi n 13) (impl_shortTexts_1_Ls n) impl_shortTexts_1_ann n impl_shortTexts_1_code := loopsOk_all (cs := []) (by kernel_rfl) trivial
theorem impl_shortTexts_1_ok (n : Nat) : EntOk Try.prog (ents n) (impl_shortTexts_1_ent n) := by
  intro hs ar y hg h
  replace h : impl_shortTexts_1_D n ar = some y := h
  unfold impl_shortTexts_1_D at h
  replace h := ocons_some h
  obtain ⟨a0, r0, rfl, h⟩ := h
  replace h := onil_some h
  obtain ⟨rfl, h⟩ := h
  obtain ⟨s0, qh0, h⟩ := obind_some h
  rw [argV_eq ok qh0]
  exact call_of (phiE_nat _ _) hs ok mixed Try.func252 (c := impl_shortTexts_1_code) (by kernel_rfl) (impl_shortTexts_1_lo n) (by kernel_rfl) (by kernel_rfl) (by kernel_rfl) impl_shortTexts_1_de ((impl_shortTexts_1_tie n s0).trans h)
noncomputable def slices_IndexFunc_string_string__impl_shortTexts_1_code : Code := match Try.f255.body with | some c => c | none => .skip
def slices_IndexFunc_string_string__impl_shortTexts_1_2_sv : List Sv := [.one (.arr 9), .one (.fn 252 []), .one (.int .i64), .one (.int .i64)]
def slices_IndexFunc_string_string__impl_shortTexts_1_2_so : List So := []
def slices_IndexFunc_string_string__impl_shortTexts_1_2_emb (c : List ByteArray × Int) (x : Int) : EVs T slices_IndexFunc_string_string__impl_shortTexts_1_2_sv × EOs T slices_IndexFunc_string_string__impl_shortTexts_1_2_so := ((c.1, (), c.2, x, ()), ())
def slices_IndexFunc_string_string__impl_shortTexts_1_2_prj (y : EVs T slices_IndexFunc_string_string__impl_shortTexts_1_2_sv × EOs T slices_IndexFunc_string_string__impl_shortTexts_1_2_so) : (List ByteArray × Int) × Int := ((y.1.1, y.1.2.2.1), (y.1.2.2.2.1))
def slices_IndexFunc_string_string__impl_shortTexts_1_2_b (n : Nat) {R : Type} (K : Ex → Sm.St T → Option R) (c : List ByteArray × Int) (x : Int) (J : Int → Option R) : Option R :=
  slices_IndexFunc_string_string__impl_shortTexts_1_L2 n (K (.exit 0) (stOf (T := T) [] [] [] [] () ())) (fun (y0 : Int) => K .ret (stOf (T := T) [4] [] [.one (.int .i64)] [] (y0, ()) ())) J c.1 c.2 x
def slices_IndexFunc_string_string__impl_shortTexts_1_2_sp (n : Nat) : LSpec T := mkSpec T ⟨[], [0, 1, 7, 8], []⟩ slices_IndexFunc_string_string__impl_shortTexts_1_2_sv slices_IndexFunc_string_string__impl_shortTexts_1_2_so (List ByteArray × Int) (Int) slices_IndexFunc_string_string__impl_shortTexts_1_2_emb slices_IndexFunc_string_string__impl_shortTexts_1_2_prj (slices_IndexFunc_string_string__impl_shortTexts_1_2_b n)
noncomputable def slices_IndexFunc_string_string__impl_shortTexts_1_2_c : Code := ((loopCodes slices_IndexFunc_string_string__impl_shortTexts_1_code)[0]?).getD .skip
def slices_IndexFunc_string_string__impl_shortTexts_1_ann : Ann := fun id => bif Nat.beq id 3000002 then some ⟨[], [], []⟩ else bif Nat.beq id 2000002 then some ⟨[], [4], []⟩ else none
def slices_IndexFunc_string_string__impl_shortTexts_1_Ls (n : Nat) : Nat → Option (LSpec T) := fun id => bif Nat.beq id 2 then some (slices_IndexFunc_string_string__impl_shortTexts_1_2_sp n) else none
theorem slices_IndexFunc_string_string__impl_shortTexts_1_2_le (n : Nat) : LoopEq (T := T) (Phi n 14) (slices_IndexFunc_string_string__impl_shortTexts_1_Ls n) slices_IndexFunc_string_string__impl_shortTexts_1_ann n slices_IndexFunc_string_string__impl_shortTexts_1_2_c (slices_IndexFunc_string_string__impl_shortTexts_1_2_sp n) := ⟨mkSpec_dec (fun y => rfl), fun c x => by kernel_rfl, fun K J c x => by kernel_rfl⟩
theorem slices_IndexFunc_string_string__impl_shortTexts_1_tie (n : Nat) (s0 : List ByteArray) : evF (T := T) (Phi n 14) (slices_IndexFunc_string_string__impl_shortTexts_1_Ls n) slices_IndexFunc_string_string__impl_shortTexts_1_ann n Try.f255 (sg 255) [vA T 104 s0, .fn 252 []] slices_IndexFunc_string_string__impl_shortTexts_1_dec = slices_IndexFunc_string_string__impl_shortTexts_1 n s0 := by kernel_rfl
theorem slices_IndexFunc_string_string__impl_shortTexts_1_lo (n : Nat) : LoopsOk (T := T) (Phi n 14) (slices_IndexFunc_string_string__impl_shortTexts_1_Ls n) slices_IndexFunc_string_string__impl_shortTexts_1_ann n slices_IndexFunc_string_string__impl_shortTexts_1_code := loopsOk_all (cs := [slices_IndexFunc_string_string__impl_shortTexts_1_2_c]) (by kernel_rfl) ⟨⟨_, by kernel_rfl, slices_IndexFunc_string_string__impl_shortTexts_1_2_le n⟩, trivial⟩
theorem slices_IndexFunc_string_string__impl_shortTexts_1_ok (n : Nat) : EntOk Try.prog (ents n) (slices_IndexFunc_string_string__impl_shortTexts_1_ent n) := by
  intro hs ar y hg h
  replace h : slices_IndexFunc_string_string__impl_shortTexts_1_D n ar = some y := h
  unfold slices_IndexFunc_string_string__impl_shortTexts_1_D at h
  split at h
  · obtain ⟨s0, qh0, h⟩ := obind_some h
    rw [argV_eq ok qh0] at hg ⊢
    cases (show [_] = [252] from natsEq_eq hg)
    exact call_of (phiE_nat _ _) hs ok mixed Try.func255 (c := slices_IndexFunc_string_string__impl_shortTexts_1_code) (by kernel_rfl) (slices_IndexFunc_string_string__impl_shortTexts_1_lo n) (by kernel_rfl) (by kernel_rfl) (by kernel_rfl) slices_IndexFunc_string_string__impl_shortTexts_1_de ((slices_IndexFunc_string_string__impl_shortTexts_1_tie n s0).trans h)
  · cases h
noncomputable def slices_ContainsFunc_string_string__impl_shortTexts_1_code : Code := match Try.f233.body with | some c => c | none => .skip
def slices_ContainsFunc_string_string__impl_shortTexts_1_ann : Ann := fun id => none
def slices_ContainsFunc_string_string__impl_shortTexts_1_Ls (n : Nat) : Nat → Option (LSpec T) := fun id => none
theorem slices_ContainsFunc_string_string__impl_shortTexts_1_tie (n : Nat) (s0 : List ByteArray) : evF (T := T) (Phi n 15) (slices_ContainsFunc_string_string__impl_shortTexts_1_Ls n) slices_ContainsFunc_string_string__impl_shortTexts_1_ann n Try.f233 (sg 233) [vA T 104 s0, .fn 252 []] slices_ContainsFunc_string_string__impl_shortTexts_1_dec = slices_ContainsFunc_string_string__impl_shortTexts_1 n s0 := by kernel_rfl
theorem slices_ContainsFunc_string_string__impl_shortTexts_1_lo (n : Nat) : LoopsOk (T := T) (Phi n 15) (slices_ContainsFunc_string_string__impl_shortTexts_1_Ls n) slices_ContainsFunc_string_string__impl_shortTexts_1_ann n slices_ContainsFunc_string_string__impl_shortTexts_1_code := loopsOk_all (cs := []) (by kernel_rfl) trivial
theorem slices_ContainsFunc_string_string__impl_shortTexts_1_ok (n : Nat) : EntOk Try.prog (ents n) (slices_ContainsFunc_string_string__impl_shortTexts_1_ent n) := by
  intro hs ar y hg h
  replace h : slices_ContainsFunc_string_string__impl_shortTexts_1_D n ar = some y := h
  unfold slices_ContainsFunc_string_string__impl_shortTexts_1_D at h
  split at h
  · obtain ⟨s0, qh0, h⟩ := obind_some h
    rw [argV_eq ok qh0] at hg ⊢
    cases (show [_] = [252] from natsEq_eq hg)
    exact call_of (phiE_nat _ _) hs ok mixed Try.func233 (c := slices_ContainsFunc_string_string__impl_shortTexts_1_code) (by kernel_rfl) (slices_ContainsFunc_string_string__impl_shortTexts_1_lo n) (by kernel_rfl) (by kernel_rfl) (by kernel_rfl) slices_ContainsFunc_string_string__impl_shortTexts_1_de ((slices_ContainsFunc_string_string__impl_shortTexts_1_tie n s0).trans h)
  · cases h
noncomputable def impl_shortTexts_code : Code := match Try.f225.body with | some c => c | none => .skip
def impl_shortTexts_ann : Ann := fun id => none
def impl_shortTexts_Ls (n : Nat) : Nat → Option (LSpec T) := fun id => none
theorem impl_shortTexts_tie (n : Nat) (l0 : List ByteArray) : evF (T := T) (Phi n 16) (impl_shortTexts_Ls n) impl_shortTexts_ann n Try.f225 (sg 225) [vA T 104 l0] impl_shortTexts_dec = impl_shortTexts n l0 := by kernel_rfl
theorem impl_shortTexts_lo (n : Nat) : LoopsOk (T := T) (Phi n 16) (impl_shortTexts_Ls n) impl_shortTexts_ann n impl_shortTexts_code := loopsOk_all (cs := []) (by kernel_rfl) trivial
theorem impl_shortTexts_ok (n : Nat) : EntOk Try.prog (ents n) (impl_shortTexts_ent n) := by
  intro hs ar y hg h
  replace h : impl_shortTexts_D n ar = some y := h
  unfold impl_shortTexts_D at h
  replace h := ocons_some h
  obtain ⟨a0, r0, rfl, h⟩ := h
  replace h := onil_some h
  obtain ⟨rfl, h⟩ := h
  obtain ⟨l0, qh0, h⟩ := obind_some h
  rw [argV_eq ok qh0]
  exact call_of (phiE_nat _ _) hs ok mixed Try.func225 (c := impl_shortTexts_code) (by kernel_rfl) (impl_shortTexts_lo n) (by kernel_rfl) (by kernel_rfl) (by kernel_rfl) impl_shortTexts_de ((impl_shortTexts_tie n l0).trans h)
noncomputable def impl_in_code : Code := match Try.f113.body with | some c => c | none => .skip
def impl_in_ann : Ann := fun id => none
def impl_in_Ls (n : Nat) : Nat → Option (LSpec T) := fun id => none
theorem impl_in_tie (n : Nat) (n0 : Int) (least1 : Int) (most2 : Int) : evF (T := T) (Phi n 17) (impl_in_Ls n) impl_in_ann n Try.f113 (sg 113) [vA T 3 n0, vA T 3 least1, vA T 3 most2] impl_in_dec = impl_in n n0 least1 most2 := by kernel_rfl
theorem impl_in_lo (n : Nat) : LoopsOk (T := T) (Phi n 17) (impl_in_Ls n) impl_in_ann n impl_in_code := loopsOk_all (cs := []) (by kernel_rfl) trivial
theorem impl_in_ok (n : Nat) : EntOk Try.prog (ents n) (impl_in_ent n) := by
  intro hs ar y hg h
  replace h : impl_in_D n ar = some y := h
  unfold impl_in_D at h
  replace h := ocons_some h
  obtain ⟨a0, r0, rfl, h⟩ := h
  replace h := ocons_some h
  obtain ⟨a1, r1, rfl, h⟩ := h
  replace h := ocons_some h
  obtain ⟨a2, r2, rfl, h⟩ := h
  replace h := onil_some h
  obtain ⟨rfl, h⟩ := h
  obtain ⟨n0, qh0, h⟩ := obind_some h
  obtain ⟨least1, qh1, h⟩ := obind_some h
  obtain ⟨most2, qh2, h⟩ := obind_some h
  rw [argV_eq ok qh0, argV_eq ok qh1, argV_eq ok qh2]
  exact call_of (phiE_nat _ _) hs ok mixed Try.func113 (c := impl_in_code) (by kernel_rfl) (impl_in_lo n) (by kernel_rfl) (by kernel_rfl) (by kernel_rfl) impl_in_de ((impl_in_tie n n0 least1 most2).trans h)
noncomputable def impl_PartyOk_code : Code := match Try.f163.body with | some c => c | none => .skip
def impl_PartyOk_ann : Ann := fun id => none
def impl_PartyOk_Ls (n : Nat) : Nat → Option (LSpec T) := fun id => none
theorem impl_PartyOk_tie (n : Nat) (p0 : SParty) : evF (T := T) (Phi n 18) (impl_PartyOk_Ls n) impl_PartyOk_ann n Try.f163 (sg 163) [vA T 108 p0] impl_PartyOk_dec = impl_PartyOk n p0 := by kernel_rfl
theorem impl_PartyOk_lo (n : Nat) : LoopsOk (T := T) (Phi n 18) (impl_PartyOk_Ls n) impl_PartyOk_ann n impl_PartyOk_code := loopsOk_all (cs := []) (by kernel_rfl) trivial
theorem impl_PartyOk_ok (n : Nat) : EntOk Try.prog (ents n) (impl_PartyOk_ent n) := by
  intro hs ar y hg h
  replace h : impl_PartyOk_D n ar = some y := h
  unfold impl_PartyOk_D at h
  replace h := ocons_some h
  obtain ⟨a0, r0, rfl, h⟩ := h
  replace h := onil_some h
  obtain ⟨rfl, h⟩ := h
  obtain ⟨p0, qh0, h⟩ := obind_some h
  rw [argV_eq ok qh0]
  exact call_of (phiE_nat _ _) hs ok mixed Try.func163 (c := impl_PartyOk_code) (by kernel_rfl) (impl_PartyOk_lo n) (by kernel_rfl) (by kernel_rfl) (by kernel_rfl) impl_PartyOk_de ((impl_PartyOk_tie n p0).trans h)
noncomputable def slices_Equal_string_string_code : Code := match Try.f169.body with | some c => c | none => .skip
def slices_Equal_string_string_4_sv : List Sv := [.one (.arr 9), .one (.arr 9), .one (.int .i64), .one (.int .i64)]
def slices_Equal_string_string_4_so : List So := []
def slices_Equal_string_string_4_emb (c : List ByteArray × List ByteArray × Int) (x : Int) : EVs T slices_Equal_string_string_4_sv × EOs T slices_Equal_string_string_4_so := ((c.1, c.2.1, c.2.2, x, ()), ())
def slices_Equal_string_string_4_prj (y : EVs T slices_Equal_string_string_4_sv × EOs T slices_Equal_string_string_4_so) : (List ByteArray × List ByteArray × Int) × Int := ((y.1.1, y.1.2.1, y.1.2.2.1), (y.1.2.2.2.1))
def slices_Equal_string_string_4_b (n : Nat) {R : Type} (K : Ex → Sm.St T → Option R) (c : List ByteArray × List ByteArray × Int) (x : Int) (J : Int → Option R) : Option R :=
  slices_Equal_string_string_L4 n (K (.exit 0) (stOf (T := T) [] [] [] [] () ())) (fun (y0 : Bool) => K .ret (stOf (T := T) [4] [] [.one (.bool)] [] (y0, ()) ())) J c.1 c.2.1 c.2.2 x
def slices_Equal_string_string_4_sp (n : Nat) : LSpec T := mkSpec T ⟨[], [0, 1, 12, 13], []⟩ slices_Equal_string_string_4_sv slices_Equal_string_string_4_so (List ByteArray × List ByteArray × Int) (Int) slices_Equal_string_string_4_emb slices_Equal_string_string_4_prj (slices_Equal_string_string_4_b n)
noncomputable def slices_Equal_string_string_4_c : Code := ((loopCodes slices_Equal_string_string_code)[0]?).getD .skip
def slices_Equal_string_string_ann : Ann := fun id => bif Nat.beq id 3000004 then some ⟨[], [], []⟩ else bif Nat.beq id 2000004 then some ⟨[], [4], []⟩ else none
def slices_Equal_string_string_Ls (n : Nat) : Nat → Option (LSpec T) := fun id => bif Nat.beq id 4 then some (slices_Equal_string_string_4_sp n) else none
theorem slices_Equal_string_string_4_le (n : Nat) : LoopEq (T := T) (Phi n 19) (slices_Equal_string_string_Ls n) slices_Equal_string_string_ann n slices_Equal_string_string_4_c (slices_Equal_string_string_4_sp n) := ⟨mkSpec_dec (fun y => rfl), fun c x => by kernel_rfl, fun K J c x => by kernel_rfl⟩
theorem slices_Equal_string_string_tie (n : Nat) (s10 : List ByteArray) (s21 : List ByteArray) : evF (T := T) (Phi n 19) (slices_Equal_string_string_Ls n) slices_Equal_string_string_ann n Try.f169 (sg 169) [vA T 104 s10, vA T 104 s21] slices_Equal_string_string_dec = slices_Equal_string_string n s10 s21 := by kernel_rfl
theorem slices_Equal_string_string_lo (n : Nat) : LoopsOk (T := T) (Phi n 19) (slices_Equal_string_string_Ls n) slices_Equal_string_string_ann n slices_Equal_string_string_code := loopsOk_all (cs := [slices_Equal_string_string_4_c]) (by kernel_rfl) ⟨⟨_, by kernel_rfl, slices_Equal_string_string_4_le n⟩, trivial⟩
theorem slices_Equal_string_string_ok (n : Nat) : EntOk Try.prog (ents n) (slices_Equal_string_string_ent n) := by
  intro hs ar y hg h
  replace h : slices_Equal_string_string_D n ar = some y := h
  unfold slices_Equal_string_string_D at h
  replace h := ocons_some h
  obtain ⟨a0, r0, rfl, h⟩ := h
  replace h := ocons_some h
  obtain ⟨a1, r1, rfl, h⟩ := h
  replace h := onil_some h
  obtain ⟨rfl, h⟩ := h
  obtain ⟨s10, qh0, h⟩ := obind_some h
  obtain ⟨s21, qh1, h⟩ := obind_some h
  rw [argV_eq ok qh0, argV_eq ok qh1]
  exact call_of (phiE_nat _ _) hs ok mixed Try.func169 (c := slices_Equal_string_string_code) (by kernel_rfl) (slices_Equal_string_string_lo n) (by kernel_rfl) (by kernel_rfl) (by kernel_rfl) slices_Equal_string_string_de ((slices_Equal_string_string_tie n s10 s21).trans h)
noncomputable def impl_begins_code : Code := match Try.f164.body with | some c => c | none => .skip
def impl_begins_ann : Ann := fun id => none
def impl_begins_Ls (n : Nat) : Nat → Option (LSpec T) := fun id => none
theorem impl_begins_tie (n : Nat) (a0 : List ByteArray) (b1 : List ByteArray) : evF (T := T) (Phi n 20) (impl_begins_Ls n) impl_begins_ann n Try.f164 (sg 164) [vA T 104 a0, vA T 104 b1] impl_begins_dec = impl_begins n a0 b1 := by kernel_rfl
theorem impl_begins_lo (n : Nat) : LoopsOk (T := T) (Phi n 20) (impl_begins_Ls n) impl_begins_ann n impl_begins_code := loopsOk_all (cs := []) (by kernel_rfl) trivial
theorem impl_begins_ok (n : Nat) : EntOk Try.prog (ents n) (impl_begins_ent n) := by
  intro hs ar y hg h
  replace h : impl_begins_D n ar = some y := h
  unfold impl_begins_D at h
  replace h := ocons_some h
  obtain ⟨a0, r0, rfl, h⟩ := h
  replace h := ocons_some h
  obtain ⟨a1, r1, rfl, h⟩ := h
  replace h := onil_some h
  obtain ⟨rfl, h⟩ := h
  obtain ⟨a0, qh0, h⟩ := obind_some h
  obtain ⟨b1, qh1, h⟩ := obind_some h
  rw [argV_eq ok qh0, argV_eq ok qh1]
  exact call_of (phiE_nat _ _) hs ok mixed Try.func164 (c := impl_begins_code) (by kernel_rfl) (impl_begins_lo n) (by kernel_rfl) (by kernel_rfl) (by kernel_rfl) impl_begins_de ((impl_begins_tie n a0 b1).trans h)
noncomputable def impl_own_string_code : Code := match Try.f123.body with | some c => c | none => .skip
def impl_own_string_ann : Ann := fun id => none
def impl_own_string_Ls (n : Nat) : Nat → Option (LSpec T) := fun id => none
theorem impl_own_string_tie (n : Nat) (l0 : List ByteArray) : evF (T := T) (Phi n 21) (impl_own_string_Ls n) impl_own_string_ann n Try.f123 (sg 123) [vA T 104 l0] impl_own_string_dec = impl_own_string n l0 := by kernel_rfl
theorem impl_own_string_lo (n : Nat) : LoopsOk (T := T) (Phi n 21) (impl_own_string_Ls n) impl_own_string_ann n impl_own_string_code := loopsOk_all (cs := []) (by kernel_rfl) trivial
theorem impl_own_string_ok (n : Nat) : EntOk Try.prog (ents n) (impl_own_string_ent n) := by
  intro hs ar y hg h
  replace h : impl_own_string_D n ar = some y := h
  unfold impl_own_string_D at h
  replace h := ocons_some h
  obtain ⟨a0, r0, rfl, h⟩ := h
  replace h := onil_some h
  obtain ⟨rfl, h⟩ := h
  obtain ⟨l0, qh0, h⟩ := obind_some h
  rw [argV_eq ok qh0]
  exact call_of (phiE_nat _ _) hs ok mixed Try.func123 (c := impl_own_string_code) (by kernel_rfl) (impl_own_string_lo n) (by kernel_rfl) (by kernel_rfl) (by kernel_rfl) impl_own_string_de ((impl_own_string_tie n l0).trans h)
noncomputable def impl_Party_own_code : Code := match Try.f168.body with | some c => c | none => .skip
def impl_Party_own_ann : Ann := fun id => none
def impl_Party_own_Ls (n : Nat) : Nat → Option (LSpec T) := fun id => none
theorem impl_Party_own_tie (n : Nat) (p0 : SParty) : evF (T := T) (Phi n 22) (impl_Party_own_Ls n) impl_Party_own_ann n Try.f168 (sg 168) [vA T 108 p0] impl_Party_own_dec = impl_Party_own n p0 := by kernel_rfl
theorem impl_Party_own_lo (n : Nat) : LoopsOk (T := T) (Phi n 22) (impl_Party_own_Ls n) impl_Party_own_ann n impl_Party_own_code := loopsOk_all (cs := []) (by kernel_rfl) trivial
theorem impl_Party_own_ok (n : Nat) : EntOk Try.prog (ents n) (impl_Party_own_ent n) := by
  intro hs ar y hg h
  replace h : impl_Party_own_D n ar = some y := h
  unfold impl_Party_own_D at h
  replace h := ocons_some h
  obtain ⟨a0, r0, rfl, h⟩ := h
  replace h := onil_some h
  obtain ⟨rfl, h⟩ := h
  obtain ⟨p0, qh0, h⟩ := obind_some h
  rw [argV_eq ok qh0]
  exact call_of (phiE_nat _ _) hs ok mixed Try.func168 (c := impl_Party_own_code) (by kernel_rfl) (impl_Party_own_lo n) (by kernel_rfl) (by kernel_rfl) (by kernel_rfl) impl_Party_own_de ((impl_Party_own_tie n p0).trans h)
noncomputable def impl_own_impl_Post_code : Code := match Try.f226.body with | some c => c | none => .skip
def impl_own_impl_Post_ann : Ann := fun id => none
def impl_own_impl_Post_Ls (n : Nat) : Nat → Option (LSpec T) := fun id => none
theorem impl_own_impl_Post_tie (n : Nat) (l0 : List SPost) : evF (T := T) (Phi n 23) (impl_own_impl_Post_Ls n) impl_own_impl_Post_ann n Try.f226 (sg 226) [vA T 215 l0] impl_own_impl_Post_dec = impl_own_impl_Post n l0 := by kernel_rfl
theorem impl_own_impl_Post_lo (n : Nat) : LoopsOk (T := T) (Phi n 23) (impl_own_impl_Post_Ls n) impl_own_impl_Post_ann n impl_own_impl_Post_code := loopsOk_all (cs := []) (by kernel_rfl) trivial
theorem impl_own_impl_Post_ok (n : Nat) : EntOk Try.prog (ents n) (impl_own_impl_Post_ent n) := by
  intro hs ar y hg h
  replace h : impl_own_impl_Post_D n ar = some y := h
  unfold impl_own_impl_Post_D at h
  replace h := ocons_some h
  obtain ⟨a0, r0, rfl, h⟩ := h
  replace h := onil_some h
  obtain ⟨rfl, h⟩ := h
  obtain ⟨l0, qh0, h⟩ := obind_some h
  rw [argV_eq ok qh0]
  exact call_of (phiE_nat _ _) hs ok mixed Try.func226 (c := impl_own_impl_Post_code) (by kernel_rfl) (impl_own_impl_Post_lo n) (by kernel_rfl) (by kernel_rfl) (by kernel_rfl) impl_own_impl_Post_de ((impl_own_impl_Post_tie n l0).trans h)
noncomputable def impl_Again21_code : Code := match Try.f166.body with | some c => c | none => .skip
def impl_Again21_5_sv : List Sv := [.one (.int .i64), .one (.ptr 16 0 0), .one (.own 3000000 221 false), .one (.int .i64)]
def impl_Again21_5_so : List So := [.var [.arr 9, .int .i64, .arr 9], .arr 221 false]
def impl_Again21_5_emb (c : Int × SParty) (x : Int × List SPost) : EVs T impl_Again21_5_sv × EOs T impl_Again21_5_so := ((c.1, (), (), x.1, ()), ((c.2.Sent, c.2.Acked, c.2.Got, ()), x.2, ()))
def impl_Again21_5_prj (y : EVs T impl_Again21_5_sv × EOs T impl_Again21_5_so) : (Int × SParty) × (Int × List SPost) := ((y.1.1, ((⟨y.2.1.1, y.2.1.2.1, y.2.1.2.2.1⟩ : SParty) : SParty)), (y.1.2.2.2.1, y.2.2.1))
def impl_Again21_5_b (n : Nat) {R : Type} (K : Ex → Sm.St T → Option R) (c : Int × SParty) (x : Int × List SPost) (J : (Int × List SPost) → Option R) : Option R :=
  impl_Again21_L5 n (fun (y2 : List SPost) => K (.exit 0) (stOf (T := T) [1, 2, 6] [16, 3000000] [.one (.int .i64), .one (.ptr 16 0 0), .one (.own 3000000 221 false)] [.var [.arr 9, .int .i64, .arr 9], .arr 221 false] (c.1, (), (), ()) ((c.2.Sent, c.2.Acked, c.2.Got, ()), y2, ()))) (fun z0 z1 => J (z0, z1)) c.1 x.1 c.2 x.2
def impl_Again21_5_sp (n : Nat) : LSpec T := mkSpec T ⟨[((.reg 6), 3000000, 221)], [1, 2, 6, 7], [16, 3000000]⟩ impl_Again21_5_sv impl_Again21_5_so (Int × SParty) (Int × List SPost) impl_Again21_5_emb impl_Again21_5_prj (impl_Again21_5_b n)
noncomputable def impl_Again21_5_c : Code := ((loopCodes impl_Again21_code)[0]?).getD .skip
def impl_Again21_ann : Ann := fun id => bif Nat.beq id 3000005 then some ⟨[((.reg 6), 3000000, 221)], [1, 2, 6], [16, 3000000]⟩ else none
def impl_Again21_Ls (n : Nat) : Nat → Option (LSpec T) := fun id => bif Nat.beq id 5 then some (impl_Again21_5_sp n) else none
theorem impl_Again21_5_le (n : Nat) : LoopEq (T := T) (Phi n 24) (impl_Again21_Ls n) impl_Again21_ann n impl_Again21_5_c (impl_Again21_5_sp n) := ⟨mkSpec_dec (fun y => rfl), fun c x => by kernel_rfl, fun K J c x => by kernel_rfl⟩
theorem impl_Again21_tie (n : Nat) (p0 : SParty) (who1 : Int) : evF (T := T) (Phi n 24) (impl_Again21_Ls n) impl_Again21_ann n Try.f166 (sg 166) [vA T 108 p0, vA T 3 who1] impl_Again21_dec = impl_Again21 n p0 who1 := by kernel_rfl
theorem impl_Again21_lo (n : Nat) : LoopsOk (T := T) (Phi n 24) (impl_Again21_Ls n) impl_Again21_ann n impl_Again21_code := loopsOk_all (cs := [impl_Again21_5_c]) (by kernel_rfl) ⟨⟨_, by kernel_rfl, impl_Again21_5_le n⟩, trivial⟩
theorem impl_Again21_ok (n : Nat) : EntOk Try.prog (ents n) (impl_Again21_ent n) := by
  intro hs ar y hg h
  replace h : impl_Again21_D n ar = some y := h
  unfold impl_Again21_D at h
  replace h := ocons_some h
  obtain ⟨a0, r0, rfl, h⟩ := h
  replace h := ocons_some h
  obtain ⟨a1, r1, rfl, h⟩ := h
  replace h := onil_some h
  obtain ⟨rfl, h⟩ := h
  obtain ⟨p0, qh0, h⟩ := obind_some h
  obtain ⟨who1, qh1, h⟩ := obind_some h
  rw [argV_eq ok qh0, argV_eq ok qh1]
  exact call_of (phiE_nat _ _) hs ok mixed Try.func166 (c := impl_Again21_code) (by kernel_rfl) (impl_Again21_lo n) (by kernel_rfl) (by kernel_rfl) (by kernel_rfl) impl_Again21_de ((impl_Again21_tie n p0 who1).trans h)
noncomputable def impl_Take21_code : Code := match Try.f167.body with | some c => c | none => .skip
def impl_Take21_ann : Ann := fun id => none
def impl_Take21_Ls (n : Nat) : Nat → Option (LSpec T) := fun id => none
theorem impl_Take21_tie (n : Nat) (p0 : SParty) (who1 : Int) (post2 : SPost) : evF (T := T) (Phi n 25) (impl_Take21_Ls n) impl_Take21_ann n Try.f167 (sg 167) [vA T 108 p0, vA T 3 who1, vA T 221 post2] impl_Take21_dec = impl_Take21 n p0 who1 post2 := by kernel_rfl
theorem impl_Take21_lo (n : Nat) : LoopsOk (T := T) (Phi n 25) (impl_Take21_Ls n) impl_Take21_ann n impl_Take21_code := loopsOk_all (cs := []) (by kernel_rfl) trivial
theorem impl_Take21_ok (n : Nat) : EntOk Try.prog (ents n) (impl_Take21_ent n) := by
  intro hs ar y hg h
  replace h : impl_Take21_D n ar = some y := h
  unfold impl_Take21_D at h
  replace h := ocons_some h
  obtain ⟨a0, r0, rfl, h⟩ := h
  replace h := ocons_some h
  obtain ⟨a1, r1, rfl, h⟩ := h
  replace h := ocons_some h
  obtain ⟨a2, r2, rfl, h⟩ := h
  replace h := onil_some h
  obtain ⟨rfl, h⟩ := h
  obtain ⟨p0, qh0, h⟩ := obind_some h
  obtain ⟨who1, qh1, h⟩ := obind_some h
  obtain ⟨post2, qh2, h⟩ := obind_some h
  rw [argV_eq ok qh0, argV_eq ok qh1, argV_eq ok qh2]
  exact call_of (phiE_nat _ _) hs ok mixed Try.func167 (c := impl_Take21_code) (by kernel_rfl) (impl_Take21_lo n) (by kernel_rfl) (by kernel_rfl) (by kernel_rfl) impl_Take21_de ((impl_Take21_tie n p0 who1 post2).trans h)
noncomputable def impl_Settle21_1_code : Code := match Try.f165.body with | some c => c | none => .skip
def impl_Settle21_1_3_sv : List Sv := [.one (.int .i64), .one (.ptr 4503599627370498 0 0), .one (.rptr 55 0), .one (.ptr 56 0 0), .one (.ptr 64 0 0), .one (.own 3000000 221 false), .one (.int .i64), .one (.int .i64)]
def impl_Settle21_1_3_so : List So := [.var [.int .i64], .var [.own 3000001 9 false, .int .i64, .own 3000002 9 false], .arr 9 false, .arr 9 false, .var [.own 3000003 9 false, .int .i64, .own 3000004 9 false], .arr 9 false, .arr 9 false, .arr 221 false]
def impl_Settle21_1_3_emb (c : Int × List Bool × Int × Int × List ByteArray × List ByteArray × List SPost) (x : Int × Int × Int × List ByteArray × List ByteArray) : EVs T impl_Settle21_1_3_sv × EOs T impl_Settle21_1_3_so := ((c.1, (), c.2.1, (), (), (), c.2.2.1, x.1, ()), ((x.2.1, ()), ((), x.2.2.1, (), ()), x.2.2.2.1, x.2.2.2.2, ((), c.2.2.2.1, (), ()), c.2.2.2.2.1, c.2.2.2.2.2.1, c.2.2.2.2.2.2, ()))
def impl_Settle21_1_3_prj (y : EVs T impl_Settle21_1_3_sv × EOs T impl_Settle21_1_3_so) : (Int × List Bool × Int × Int × List ByteArray × List ByteArray × List SPost) × (Int × Int × Int × List ByteArray × List ByteArray) := ((y.1.1, y.1.2.2.1, y.1.2.2.2.2.2.2.1, y.2.2.2.2.2.1.2.1, y.2.2.2.2.2.2.1, y.2.2.2.2.2.2.2.1, y.2.2.2.2.2.2.2.2.1), (y.1.2.2.2.2.2.2.2.1, y.2.1.1, y.2.2.1.2.1, y.2.2.2.1, y.2.2.2.2.1))
def impl_Settle21_1_3_b (n : Nat) {R : Type} (K : Ex → Sm.St T → Option R) (c : Int × List Bool × Int × Int × List ByteArray × List ByteArray × List SPost) (x : Int × Int × Int × List ByteArray × List ByteArray) (J : (Int × Int × Int × List ByteArray × List ByteArray) → Option R) : Option R :=
  impl_Settle21_1_L3 n (fun (y0 : Int) (y1 : List ByteArray) (y2 : List ByteArray) (y6 : Int) => K (.exit 0) (stOf (T := T) [7, 8] [56, 3000001, 3000002, 64, 3000003, 3000004, 4503599627370498] [.one (.ptr 56 0 0), .one (.ptr 64 0 0)] [.var [.own 3000001 9 false, .int .i64, .own 3000002 9 false], .arr 9 false, .arr 9 false, .var [.own 3000003 9 false, .int .i64, .own 3000004 9 false], .arr 9 false, .arr 9 false, .var [.int .i64]] ((), (), ()) (((), y0, (), ()), y1, y2, ((), c.2.2.2.1, (), ()), c.2.2.2.2.1, c.2.2.2.2.2.1, (y6, ()), ()))) (fun z0 z1 z2 z3 z4 => J (z0, z1, z2, z3, z4)) c.1 c.2.1 c.2.2.1 x.1 x.2.1 x.2.2.1 x.2.2.2.1 x.2.2.2.2 c.2.2.2.1 c.2.2.2.2.1 c.2.2.2.2.2.1 c.2.2.2.2.2.2
def impl_Settle21_1_3_sp (n : Nat) : LSpec T := mkSpec T ⟨[((.reg 19), 3000000, 221), ((.cell 56 0), 3000001, 9), ((.cell 56 2), 3000002, 9), ((.cell 64 0), 3000003, 9), ((.cell 64 2), 3000004, 9)], [1, 3, 4, 7, 8, 19, 20, 21], [4503599627370498, 56, 3000001, 3000002, 64, 3000003, 3000004, 3000000]⟩ impl_Settle21_1_3_sv impl_Settle21_1_3_so (Int × List Bool × Int × Int × List ByteArray × List ByteArray × List SPost) (Int × Int × Int × List ByteArray × List ByteArray) impl_Settle21_1_3_emb impl_Settle21_1_3_prj (impl_Settle21_1_3_b n)
noncomputable def impl_Settle21_1_3_c : Code := ((loopCodes impl_Settle21_1_code)[0]?).getD .skip
def impl_Settle21_1_ann : Ann := fun id => bif Nat.beq id 3000003 then some ⟨[((.cell 56 0), 3000001, 9), ((.cell 56 2), 3000002, 9), ((.cell 64 0), 3000003, 9), ((.cell 64 2), 3000004, 9)], [7, 8], [56, 3000001, 3000002, 64, 3000003, 3000004, 4503599627370498]⟩ else none
def impl_Settle21_1_Ls (n : Nat) : Nat → Option (LSpec T) := fun id => bif Nat.beq id 3 then some (impl_Settle21_1_3_sp n) else none
theorem impl_Settle21_1_3_le (n : Nat) : LoopEq (T := T) (Phi n 26) (impl_Settle21_1_Ls n) impl_Settle21_1_ann n impl_Settle21_1_3_c (impl_Settle21_1_3_sp n) := ⟨mkSpec_dec (fun y => rfl), fun c x => by kernel_rfl, fun K J c x => by kernel_rfl⟩
theorem impl_Settle21_1_tie (n : Nat) (from0 : SParty) (who1 : Int) (to2 : SParty) (a3 : Int) (a4 : List Bool) : evF (T := T) (Phi n 26) (impl_Settle21_1_Ls n) impl_Settle21_1_ann n Try.f165 (sg 165) [vA T 108 from0, vA T 3 who1, vA T 108 to2, .ptr 3 a3, .ptr 55 a4] impl_Settle21_1_dec = impl_Settle21_1 n from0 who1 to2 a3 a4 := by kernel_rfl
theorem impl_Settle21_1_lo (n : Nat) : LoopsOk (T := T) (Phi n 26) (impl_Settle21_1_Ls n) impl_Settle21_1_ann n impl_Settle21_1_code := loopsOk_all (cs := [impl_Settle21_1_3_c]) (by kernel_rfl) ⟨⟨_, by kernel_rfl, impl_Settle21_1_3_le n⟩, trivial⟩
theorem impl_Settle21_1_ok (n : Nat) : EntOk Try.prog (ents n) (impl_Settle21_1_ent n) := by
  intro hs ar y hg h
  replace h : impl_Settle21_1_D n ar = some y := h
  unfold impl_Settle21_1_D at h
  replace h := ocons_some h
  obtain ⟨a0, r0, rfl, h⟩ := h
  replace h := ocons_some h
  obtain ⟨a1, r1, rfl, h⟩ := h
  replace h := ocons_some h
  obtain ⟨a2, r2, rfl, h⟩ := h
  replace h := ocons_some h
  obtain ⟨a3, r3, rfl, h⟩ := h
  replace h := ocons_some h
  obtain ⟨a4, r4, rfl, h⟩ := h
  replace h := onil_some h
  obtain ⟨rfl, h⟩ := h
  obtain ⟨from0, qh0, h⟩ := obind_some h
  obtain ⟨who1, qh1, h⟩ := obind_some h
  obtain ⟨to2, qh2, h⟩ := obind_some h
  obtain ⟨a3, qh3, h⟩ := obind_some h
  obtain ⟨a4, qh4, h⟩ := obind_some h
  rw [argV_eq ok qh0, argV_eq ok qh1, argV_eq ok qh2, argP_eq qh3, argP_eq qh4]
  exact call_of (phiE_nat _ _) hs ok mixed Try.func165 (c := impl_Settle21_1_code) (by kernel_rfl) (impl_Settle21_1_lo n) (by kernel_rfl) (by kernel_rfl) (by kernel_rfl) impl_Settle21_1_de ((impl_Settle21_1_tie n from0 who1 to2 a3 a4).trans h)
noncomputable def impl_Settle21_code : Code := match Try.f77.body with | some c => c | none => .skip
def impl_Settle21_7_sv : List Sv := [.one (.ptr 32 0 0), .one (.ptr 40 0 0), .one (.ptr 64 0 0), .one (.ptr 72 0 0), .one (.fn 165 [88, 48]), .one (.int .i64), .one (.int .i64)]
def impl_Settle21_7_so : List So := [.var [.own 3000000 9 false, .int .i64, .own 3000001 9 false], .arr 9 false, .arr 9 false, .var [.own 3000002 9 false, .int .i64, .own 3000003 9 false], .arr 9 false, .arr 9 false, .var [.own 3000004 9 false, .int .i64, .own 3000005 9 false], .arr 9 false, .arr 9 false, .var [.own 3000006 9 false, .int .i64, .own 3000007 9 false], .arr 9 false, .arr 9 false, .var [.int .i64], .var [.arr 4]]
def impl_Settle21_7_emb (c : Int × Int × List ByteArray × List ByteArray × Int × List ByteArray × List ByteArray × List Bool) (x : Int × Int × List ByteArray × List ByteArray × Int × List ByteArray × List ByteArray × Int) : EVs T impl_Settle21_7_sv × EOs T impl_Settle21_7_so := (((), (), (), (), (), c.1, x.1, ()), (((), x.2.1, (), ()), x.2.2.1, x.2.2.2.1, ((), x.2.2.2.2.1, (), ()), x.2.2.2.2.2.1, x.2.2.2.2.2.2.1, ((), c.2.1, (), ()), c.2.2.1, c.2.2.2.1, ((), c.2.2.2.2.1, (), ()), c.2.2.2.2.2.1, c.2.2.2.2.2.2.1, (x.2.2.2.2.2.2.2, ()), (c.2.2.2.2.2.2.2, ()), ()))
def impl_Settle21_7_prj (y : EVs T impl_Settle21_7_sv × EOs T impl_Settle21_7_so) : (Int × Int × List ByteArray × List ByteArray × Int × List ByteArray × List ByteArray × List Bool) × (Int × Int × List ByteArray × List ByteArray × Int × List ByteArray × List ByteArray × Int) := ((y.1.2.2.2.2.2.1, y.2.2.2.2.2.2.2.1.2.1, y.2.2.2.2.2.2.2.2.1, y.2.2.2.2.2.2.2.2.2.1, y.2.2.2.2.2.2.2.2.2.2.1.2.1, y.2.2.2.2.2.2.2.2.2.2.2.1, y.2.2.2.2.2.2.2.2.2.2.2.2.1, y.2.2.2.2.2.2.2.2.2.2.2.2.2.2.1.1), (y.1.2.2.2.2.2.2.1, y.2.1.2.1, y.2.2.1, y.2.2.2.1, y.2.2.2.2.1.2.1, y.2.2.2.2.2.1, y.2.2.2.2.2.2.1, y.2.2.2.2.2.2.2.2.2.2.2.2.2.1.1))
def impl_Settle21_7_b (n : Nat) {R : Type} (K : Ex → Sm.St T → Option R) (c : Int × Int × List ByteArray × List ByteArray × Int × List ByteArray × List ByteArray × List Bool) (x : Int × Int × List ByteArray × List ByteArray × Int × List ByteArray × List ByteArray × Int) (J : (Int × Int × List ByteArray × List ByteArray × Int × List ByteArray × List ByteArray × Int) → Option R) : Option R :=
  impl_Settle21_L7 n (fun (y0 : Int) (y1 : List ByteArray) (y2 : List ByteArray) (y3 : Int) (y4 : List ByteArray) (y5 : List ByteArray) => K (.exit 0) (stOf (T := T) [4, 5, 8, 9] [32, 3000000, 3000001, 40, 3000002, 3000003, 64, 3000004, 3000005, 72, 3000006, 3000007] [.one (.ptr 32 0 0), .one (.ptr 40 0 0), .one (.ptr 64 0 0), .one (.ptr 72 0 0)] [.var [.own 3000000 9 false, .int .i64, .own 3000001 9 false], .arr 9 false, .arr 9 false, .var [.own 3000002 9 false, .int .i64, .own 3000003 9 false], .arr 9 false, .arr 9 false, .var [.own 3000004 9 false, .int .i64, .own 3000005 9 false], .arr 9 false, .arr 9 false, .var [.own 3000006 9 false, .int .i64, .own 3000007 9 false], .arr 9 false, .arr 9 false] ((), (), (), (), ()) (((), y0, (), ()), y1, y2, ((), y3, (), ()), y4, y5, ((), c.2.1, (), ()), c.2.2.1, c.2.2.2.1, ((), c.2.2.2.2.1, (), ()), c.2.2.2.2.2.1, c.2.2.2.2.2.2.1, ()))) (fun z0 z1 z2 z3 z4 z5 z6 z7 => J (z0, z1, z2, z3, z4, z5, z6, z7)) c.1 x.1 x.2.1 x.2.2.1 x.2.2.2.1 x.2.2.2.2.1 x.2.2.2.2.2.1 x.2.2.2.2.2.2.1 c.2.1 c.2.2.1 c.2.2.2.1 c.2.2.2.2.1 c.2.2.2.2.2.1 c.2.2.2.2.2.2.1 x.2.2.2.2.2.2.2 c.2.2.2.2.2.2.2
def impl_Settle21_7_sp (n : Nat) : LSpec T := mkSpec T ⟨[((.cell 32 0), 3000000, 9), ((.cell 32 2), 3000001, 9), ((.cell 40 0), 3000002, 9), ((.cell 40 2), 3000003, 9), ((.cell 64 0), 3000004, 9), ((.cell 64 2), 3000005, 9), ((.cell 72 0), 3000006, 9), ((.cell 72 2), 3000007, 9)], [4, 5, 8, 9, 12, 70, 71], [32, 3000000, 3000001, 40, 3000002, 3000003, 64, 3000004, 3000005, 72, 3000006, 3000007, 88, 48]⟩ impl_Settle21_7_sv impl_Settle21_7_so (Int × Int × List ByteArray × List ByteArray × Int × List ByteArray × List ByteArray × List Bool) (Int × Int × List ByteArray × List ByteArray × Int × List ByteArray × List ByteArray × Int) impl_Settle21_7_emb impl_Settle21_7_prj (impl_Settle21_7_b n)
noncomputable def impl_Settle21_7_c : Code := ((loopCodes impl_Settle21_code)[0]?).getD .skip
def impl_Settle21_ann : Ann := fun id => bif Nat.beq id 3000007 then some ⟨[((.cell 32 0), 3000000, 9), ((.cell 32 2), 3000001, 9), ((.cell 40 0), 3000002, 9), ((.cell 40 2), 3000003, 9), ((.cell 64 0), 3000004, 9), ((.cell 64 2), 3000005, 9), ((.cell 72 0), 3000006, 9), ((.cell 72 2), 3000007, 9)], [4, 5, 8, 9], [32, 3000000, 3000001, 40, 3000002, 3000003, 64, 3000004, 3000005, 72, 3000006, 3000007]⟩ else none
def impl_Settle21_Ls (n : Nat) : Nat → Option (LSpec T) := fun id => bif Nat.beq id 7 then some (impl_Settle21_7_sp n) else none
theorem impl_Settle21_7_le (n : Nat) : LoopEq (T := T) (Phi n 27) (impl_Settle21_Ls n) impl_Settle21_ann n impl_Settle21_7_c (impl_Settle21_7_sp n) := ⟨mkSpec_dec (fun y => rfl), fun c x => by kernel_rfl, fun K J c x => by kernel_rfl⟩
theorem impl_Settle21_tie (n : Nat) (a0 : SParty) (b1 : SParty) (lost2 : List Bool) (rounds3 : Int) : evF (T := T) (Phi n 27) (impl_Settle21_Ls n) impl_Settle21_ann n Try.f77 (sg 77) [vA T 108 a0, vA T 108 b1, vA T 55 lost2, vA T 3 rounds3] impl_Settle21_dec = impl_Settle21 n a0 b1 lost2 rounds3 := by kernel_rfl
theorem impl_Settle21_lo (n : Nat) : LoopsOk (T := T) (Phi n 27) (impl_Settle21_Ls n) impl_Settle21_ann n impl_Settle21_code := loopsOk_all (cs := [impl_Settle21_7_c]) (by kernel_rfl) ⟨⟨_, by kernel_rfl, impl_Settle21_7_le n⟩, trivial⟩
theorem impl_Settle21_ok (n : Nat) : EntOk Try.prog (ents n) (impl_Settle21_ent n) := by
  intro hs ar y hg h
  replace h : impl_Settle21_D n ar = some y := h
  unfold impl_Settle21_D at h
  replace h := ocons_some h
  obtain ⟨a0, r0, rfl, h⟩ := h
  replace h := ocons_some h
  obtain ⟨a1, r1, rfl, h⟩ := h
  replace h := ocons_some h
  obtain ⟨a2, r2, rfl, h⟩ := h
  replace h := ocons_some h
  obtain ⟨a3, r3, rfl, h⟩ := h
  replace h := onil_some h
  obtain ⟨rfl, h⟩ := h
  obtain ⟨a0, qh0, h⟩ := obind_some h
  obtain ⟨b1, qh1, h⟩ := obind_some h
  obtain ⟨lost2, qh2, h⟩ := obind_some h
  obtain ⟨rounds3, qh3, h⟩ := obind_some h
  rw [argV_eq ok qh0, argV_eq ok qh1, argV_eq ok qh2, argV_eq ok qh3]
  exact call_of (phiE_nat _ _) hs ok mixed Try.func77 (c := impl_Settle21_code) (by kernel_rfl) (impl_Settle21_lo n) (by kernel_rfl) (by kernel_rfl) (by kernel_rfl) impl_Settle21_de ((impl_Settle21_tie n a0 b1 lost2 rounds3).trans h)
noncomputable def laws_eqStringS_code : Code := match Try.f170.body with | some c => c | none => .skip
def laws_eqStringS_4_sv : List Sv := [.one (.arr 9), .one (.arr 9), .one (.int .i64)]
def laws_eqStringS_4_so : List So := []
def laws_eqStringS_4_emb (c : List ByteArray × List ByteArray) (x : Int) : EVs T laws_eqStringS_4_sv × EOs T laws_eqStringS_4_so := ((c.1, c.2, x, ()), ())
def laws_eqStringS_4_prj (y : EVs T laws_eqStringS_4_sv × EOs T laws_eqStringS_4_so) : (List ByteArray × List ByteArray) × Int := ((y.1.1, y.1.2.1), (y.1.2.2.1))
def laws_eqStringS_4_b (n : Nat) {R : Type} (K : Ex → Sm.St T → Option R) (c : List ByteArray × List ByteArray) (x : Int) (J : Int → Option R) : Option R :=
  laws_eqStringS_L4 n (K (.exit 0) (stOf (T := T) [] [] [] [] () ())) (fun (y0 : Bool) => K .ret (stOf (T := T) [4] [] [.one (.bool)] [] (y0, ()) ())) J c.1 c.2 x
def laws_eqStringS_4_sp (n : Nat) : LSpec T := mkSpec T ⟨[], [0, 1, 5], []⟩ laws_eqStringS_4_sv laws_eqStringS_4_so (List ByteArray × List ByteArray) (Int) laws_eqStringS_4_emb laws_eqStringS_4_prj (laws_eqStringS_4_b n)
noncomputable def laws_eqStringS_4_c : Code := ((loopCodes laws_eqStringS_code)[0]?).getD .skip
def laws_eqStringS_ann : Ann := fun id => bif Nat.beq id 3000004 then some ⟨[], [], []⟩ else bif Nat.beq id 2000004 then some ⟨[], [4], []⟩ else none
def laws_eqStringS_Ls (n : Nat) : Nat → Option (LSpec T) := fun id => bif Nat.beq id 4 then some (laws_eqStringS_4_sp n) else none
theorem laws_eqStringS_4_le (n : Nat) : LoopEq (T := T) (Phi n 28) (laws_eqStringS_Ls n) laws_eqStringS_ann n laws_eqStringS_4_c (laws_eqStringS_4_sp n) := ⟨mkSpec_dec (fun y => rfl), fun c x => by kernel_rfl, fun K J c x => by kernel_rfl⟩
theorem laws_eqStringS_tie (n : Nat) (a0 : List ByteArray) (b1 : List ByteArray) : evF (T := T) (Phi n 28) (laws_eqStringS_Ls n) laws_eqStringS_ann n Try.f170 (sg 170) [vA T 104 a0, vA T 104 b1] laws_eqStringS_dec = laws_eqStringS n a0 b1 := by kernel_rfl
theorem laws_eqStringS_lo (n : Nat) : LoopsOk (T := T) (Phi n 28) (laws_eqStringS_Ls n) laws_eqStringS_ann n laws_eqStringS_code := loopsOk_all (cs := [laws_eqStringS_4_c]) (by kernel_rfl) ⟨⟨_, by kernel_rfl, laws_eqStringS_4_le n⟩, trivial⟩
theorem laws_eqStringS_ok (n : Nat) : EntOk Try.prog (ents n) (laws_eqStringS_ent n) := by
  intro hs ar y hg h
  replace h : laws_eqStringS_D n ar = some y := h
  unfold laws_eqStringS_D at h
  replace h := ocons_some h
  obtain ⟨a0, r0, rfl, h⟩ := h
  replace h := ocons_some h
  obtain ⟨a1, r1, rfl, h⟩ := h
  replace h := onil_some h
  obtain ⟨rfl, h⟩ := h
  obtain ⟨a0, qh0, h⟩ := obind_some h
  obtain ⟨b1, qh1, h⟩ := obind_some h
  rw [argV_eq ok qh0, argV_eq ok qh1]
  exact call_of (phiE_nat _ _) hs ok mixed Try.func170 (c := laws_eqStringS_code) (by kernel_rfl) (laws_eqStringS_lo n) (by kernel_rfl) (by kernel_rfl) (by kernel_rfl) laws_eqStringS_de ((laws_eqStringS_tie n a0 b1).trans h)
noncomputable def laws_eqParty_code : Code := match Try.f78.body with | some c => c | none => .skip
def laws_eqParty_ann : Ann := fun id => none
def laws_eqParty_Ls (n : Nat) : Nat → Option (LSpec T) := fun id => none
theorem laws_eqParty_tie (n : Nat) (a0 : SParty) (b1 : SParty) : evF (T := T) (Phi n 29) (laws_eqParty_Ls n) laws_eqParty_ann n Try.f78 (sg 78) [vA T 108 a0, vA T 108 b1] laws_eqParty_dec = laws_eqParty n a0 b1 := by kernel_rfl
theorem laws_eqParty_lo (n : Nat) : LoopsOk (T := T) (Phi n 29) (laws_eqParty_Ls n) laws_eqParty_ann n laws_eqParty_code := loopsOk_all (cs := []) (by kernel_rfl) trivial
theorem laws_eqParty_ok (n : Nat) : EntOk Try.prog (ents n) (laws_eqParty_ent n) := by
  intro hs ar y hg h
  replace h : laws_eqParty_D n ar = some y := h
  unfold laws_eqParty_D at h
  replace h := ocons_some h
  obtain ⟨a0, r0, rfl, h⟩ := h
  replace h := ocons_some h
  obtain ⟨a1, r1, rfl, h⟩ := h
  replace h := onil_some h
  obtain ⟨rfl, h⟩ := h
  obtain ⟨a0, qh0, h⟩ := obind_some h
  obtain ⟨b1, qh1, h⟩ := obind_some h
  rw [argV_eq ok qh0, argV_eq ok qh1]
  exact call_of (phiE_nat _ _) hs ok mixed Try.func78 (c := laws_eqParty_code) (by kernel_rfl) (laws_eqParty_lo n) (by kernel_rfl) (by kernel_rfl) (by kernel_rfl) laws_eqParty_de ((laws_eqParty_tie n a0 b1).trans h)
noncomputable def laws_eqBoolS_code : Code := match Try.f43.body with | some c => c | none => .skip
def laws_eqBoolS_4_sv : List Sv := [.one (.arr 4), .one (.arr 4), .one (.int .i64)]
def laws_eqBoolS_4_so : List So := []
def laws_eqBoolS_4_emb (c : List Bool × List Bool) (x : Int) : EVs T laws_eqBoolS_4_sv × EOs T laws_eqBoolS_4_so := ((c.1, c.2, x, ()), ())
def laws_eqBoolS_4_prj (y : EVs T laws_eqBoolS_4_sv × EOs T laws_eqBoolS_4_so) : (List Bool × List Bool) × Int := ((y.1.1, y.1.2.1), (y.1.2.2.1))
def laws_eqBoolS_4_b (n : Nat) {R : Type} (K : Ex → Sm.St T → Option R) (c : List Bool × List Bool) (x : Int) (J : Int → Option R) : Option R :=
  laws_eqBoolS_L4 n (K (.exit 0) (stOf (T := T) [] [] [] [] () ())) (fun (y0 : Bool) => K .ret (stOf (T := T) [4] [] [.one (.bool)] [] (y0, ()) ())) J c.1 c.2 x
def laws_eqBoolS_4_sp (n : Nat) : LSpec T := mkSpec T ⟨[], [0, 1, 5], []⟩ laws_eqBoolS_4_sv laws_eqBoolS_4_so (List Bool × List Bool) (Int) laws_eqBoolS_4_emb laws_eqBoolS_4_prj (laws_eqBoolS_4_b n)
noncomputable def laws_eqBoolS_4_c : Code := ((loopCodes laws_eqBoolS_code)[0]?).getD .skip
def laws_eqBoolS_ann : Ann := fun id => bif Nat.beq id 3000004 then some ⟨[], [], []⟩ else bif Nat.beq id 2000004 then some ⟨[], [4], []⟩ else none
def laws_eqBoolS_Ls (n : Nat) : Nat → Option (LSpec T) := fun id => bif Nat.beq id 4 then some (laws_eqBoolS_4_sp n) else none
theorem laws_eqBoolS_4_le (n : Nat) : LoopEq (T := T) (Phi n 30) (laws_eqBoolS_Ls n) laws_eqBoolS_ann n laws_eqBoolS_4_c (laws_eqBoolS_4_sp n) := ⟨mkSpec_dec (fun y => rfl), fun c x => by kernel_rfl, fun K J c x => by kernel_rfl⟩
theorem laws_eqBoolS_tie (n : Nat) (a0 : List Bool) (b1 : List Bool) : evF (T := T) (Phi n 30) (laws_eqBoolS_Ls n) laws_eqBoolS_ann n Try.f43 (sg 43) [vA T 55 a0, vA T 55 b1] laws_eqBoolS_dec = laws_eqBoolS n a0 b1 := by kernel_rfl
theorem laws_eqBoolS_lo (n : Nat) : LoopsOk (T := T) (Phi n 30) (laws_eqBoolS_Ls n) laws_eqBoolS_ann n laws_eqBoolS_code := loopsOk_all (cs := [laws_eqBoolS_4_c]) (by kernel_rfl) ⟨⟨_, by kernel_rfl, laws_eqBoolS_4_le n⟩, trivial⟩
theorem laws_eqBoolS_ok (n : Nat) : EntOk Try.prog (ents n) (laws_eqBoolS_ent n) := by
  intro hs ar y hg h
  replace h : laws_eqBoolS_D n ar = some y := h
  unfold laws_eqBoolS_D at h
  replace h := ocons_some h
  obtain ⟨a0, r0, rfl, h⟩ := h
  replace h := ocons_some h
  obtain ⟨a1, r1, rfl, h⟩ := h
  replace h := onil_some h
  obtain ⟨rfl, h⟩ := h
  obtain ⟨a0, qh0, h⟩ := obind_some h
  obtain ⟨b1, qh1, h⟩ := obind_some h
  rw [argV_eq ok qh0, argV_eq ok qh1]
  exact call_of (phiE_nat _ _) hs ok mixed Try.func43 (c := laws_eqBoolS_code) (by kernel_rfl) (laws_eqBoolS_lo n) (by kernel_rfl) (by kernel_rfl) (by kernel_rfl) laws_eqBoolS_de ((laws_eqBoolS_tie n a0 b1).trans h)
noncomputable def laws_markText_code : Code := match Try.f108.body with | some c => c | none => .skip
def laws_markText_4_sv : List Sv := [.one (.int .i64), .one (.str)]
def laws_markText_4_so : List So := []
def laws_markText_4_emb (c : Unit) (x : Int × ByteArray) : EVs T laws_markText_4_sv × EOs T laws_markText_4_so := ((x.1, x.2, ()), ())
def laws_markText_4_prj (y : EVs T laws_markText_4_sv × EOs T laws_markText_4_so) : Unit × (Int × ByteArray) := ((), (y.1.1, y.1.2.1))
def laws_markText_4_b (n : Nat) {R : Type} (K : Ex → Sm.St T → Option R) (c : Unit) (x : Int × ByteArray) (J : (Int × ByteArray) → Option R) : Option R :=
  laws_markText_L4 n (fun (y0 : ByteArray) => K (.exit 0) (stOf (T := T) [3] [] [.one (.str)] [] (y0, ()) ())) (fun z0 z1 => J (z0, z1)) x.1 x.2
def laws_markText_4_sp (n : Nat) : LSpec T := mkSpec T ⟨[], [0, 3], []⟩ laws_markText_4_sv laws_markText_4_so (Unit) (Int × ByteArray) laws_markText_4_emb laws_markText_4_prj (laws_markText_4_b n)
noncomputable def laws_markText_4_c : Code := ((loopCodes laws_markText_code)[0]?).getD .skip
def laws_markText_ann : Ann := fun id => bif Nat.beq id 3000004 then some ⟨[], [3], []⟩ else none
def laws_markText_Ls (n : Nat) : Nat → Option (LSpec T) := fun id => bif Nat.beq id 4 then some (laws_markText_4_sp n) else none
theorem laws_markText_4_le (n : Nat) : LoopEq (T := T) (Phi n 31) (laws_markText_Ls n) laws_markText_ann n laws_markText_4_c (laws_markText_4_sp n) := ⟨mkSpec_dec (fun y => rfl), fun c x => by kernel_rfl, fun K J c x => by kernel_rfl⟩
theorem laws_markText_tie (n : Nat) (k0 : Int) : evF (T := T) (Phi n 31) (laws_markText_Ls n) laws_markText_ann n Try.f108 (sg 108) [vA T 3 k0] laws_markText_dec = laws_markText n k0 := by kernel_rfl
theorem laws_markText_lo (n : Nat) : LoopsOk (T := T) (Phi n 31) (laws_markText_Ls n) laws_markText_ann n laws_markText_code := loopsOk_all (cs := [laws_markText_4_c]) (by kernel_rfl) ⟨⟨_, by kernel_rfl, laws_markText_4_le n⟩, trivial⟩
theorem laws_markText_ok (n : Nat) : EntOk Try.prog (ents n) (laws_markText_ent n) := by
  intro hs ar y hg h
  replace h : laws_markText_D n ar = some y := h
  unfold laws_markText_D at h
  replace h := ocons_some h
  obtain ⟨a0, r0, rfl, h⟩ := h
  replace h := onil_some h
  obtain ⟨rfl, h⟩ := h
  obtain ⟨k0, qh0, h⟩ := obind_some h
  rw [argV_eq ok qh0]
  exact call_of (phiE_nat _ _) hs ok mixed Try.func108 (c := laws_markText_code) (by kernel_rfl) (laws_markText_lo n) (by kernel_rfl) (by kernel_rfl) (by kernel_rfl) laws_markText_de ((laws_markText_tie n k0).trans h)
noncomputable def laws_markStringS_code : Code := match Try.f171.body with | some c => c | none => .skip
def laws_markStringS_2_sv : List Sv := [.one (.own 4503599627370496 9 false), .one (.int .i64), .one (.int .i64)]
def laws_markStringS_2_so : List So := [.arr 9 true]
def laws_markStringS_2_emb (c : Unit) (x : Int × Int × List ByteArray) : EVs T laws_markStringS_2_sv × EOs T laws_markStringS_2_so := (((), x.1, x.2.1, ()), (x.2.2, ()))
def laws_markStringS_2_prj (y : EVs T laws_markStringS_2_sv × EOs T laws_markStringS_2_so) : Unit × (Int × Int × List ByteArray) := ((), (y.1.2.1, y.1.2.2.1, y.2.1))
def laws_markStringS_2_b (n : Nat) {R : Type} (K : Ex → Sm.St T → Option R) (c : Unit) (x : Int × Int × List ByteArray) (J : (Int × Int × List ByteArray) → Option R) : Option R :=
  laws_markStringS_L2 n (fun (y0 : Int) (y1 : List ByteArray) => K (.exit 0) (stOf (T := T) [1] [4503599627370496] [.one (.int .i64)] [.arr 9 true] (y0, ()) (y1, ()))) (fun z0 z1 z2 => J (z0, z1, z2)) x.1 x.2.1 x.2.2
def laws_markStringS_2_sp (n : Nat) : LSpec T := mkSpec T ⟨[], [0, 1, 5], [4503599627370496]⟩ laws_markStringS_2_sv laws_markStringS_2_so (Unit) (Int × Int × List ByteArray) laws_markStringS_2_emb laws_markStringS_2_prj (laws_markStringS_2_b n)
noncomputable def laws_markStringS_2_c : Code := ((loopCodes laws_markStringS_code)[0]?).getD .skip
def laws_markStringS_ann : Ann := fun id => bif Nat.beq id 3000002 then some ⟨[], [1], [4503599627370496]⟩ else none
def laws_markStringS_Ls (n : Nat) : Nat → Option (LSpec T) := fun id => bif Nat.beq id 2 then some (laws_markStringS_2_sp n) else none
theorem laws_markStringS_2_le (n : Nat) : LoopEq (T := T) (Phi n 32) (laws_markStringS_Ls n) laws_markStringS_ann n laws_markStringS_2_c (laws_markStringS_2_sp n) := ⟨mkSpec_dec (fun y => rfl), fun c x => by kernel_rfl, fun K J c x => by kernel_rfl⟩
theorem laws_markStringS_tie (n : Nat) (a0 : List ByteArray) (k1 : Int) : evF (T := T) (Phi n 32) (laws_markStringS_Ls n) laws_markStringS_ann n Try.f171 (sg 171) [vA T 104 a0, vA T 3 k1] laws_markStringS_dec = laws_markStringS n a0 k1 := by kernel_rfl
theorem laws_markStringS_lo (n : Nat) : LoopsOk (T := T) (Phi n 32) (laws_markStringS_Ls n) laws_markStringS_ann n laws_markStringS_code := loopsOk_all (cs := [laws_markStringS_2_c]) (by kernel_rfl) ⟨⟨_, by kernel_rfl, laws_markStringS_2_le n⟩, trivial⟩
theorem laws_markStringS_ok (n : Nat) : EntOk Try.prog (ents n) (laws_markStringS_ent n) := by
  intro hs ar y hg h
  replace h : laws_markStringS_D n ar = some y := h
  unfold laws_markStringS_D at h
  replace h := ocons_some h
  obtain ⟨a0, r0, rfl, h⟩ := h
  replace h := ocons_some h
  obtain ⟨a1, r1, rfl, h⟩ := h
  replace h := onil_some h
  obtain ⟨rfl, h⟩ := h
  obtain ⟨a0, qh0, h⟩ := obind_some h
  obtain ⟨k1, qh1, h⟩ := obind_some h
  rw [argV_eq ok qh0, argV_eq ok qh1]
  exact call_of (phiE_nat _ _) hs ok mixed Try.func171 (c := laws_markStringS_code) (by kernel_rfl) (laws_markStringS_lo n) (by kernel_rfl) (by kernel_rfl) (by kernel_rfl) laws_markStringS_de ((laws_markStringS_tie n a0 k1).trans h)
noncomputable def laws_markParty_code : Code := match Try.f79.body with | some c => c | none => .skip
def laws_markParty_ann : Ann := fun id => none
def laws_markParty_Ls (n : Nat) : Nat → Option (LSpec T) := fun id => none
theorem laws_markParty_tie (n : Nat) (a0 : SParty) (k1 : Int) : evF (T := T) (Phi n 33) (laws_markParty_Ls n) laws_markParty_ann n Try.f79 (sg 79) [vA T 108 a0, vA T 3 k1] laws_markParty_dec = laws_markParty n a0 k1 := by kernel_rfl
theorem laws_markParty_lo (n : Nat) : LoopsOk (T := T) (Phi n 33) (laws_markParty_Ls n) laws_markParty_ann n laws_markParty_code := loopsOk_all (cs := []) (by kernel_rfl) trivial
theorem laws_markParty_ok (n : Nat) : EntOk Try.prog (ents n) (laws_markParty_ent n) := by
  intro hs ar y hg h
  replace h : laws_markParty_D n ar = some y := h
  unfold laws_markParty_D at h
  replace h := ocons_some h
  obtain ⟨a0, r0, rfl, h⟩ := h
  replace h := ocons_some h
  obtain ⟨a1, r1, rfl, h⟩ := h
  replace h := onil_some h
  obtain ⟨rfl, h⟩ := h
  obtain ⟨a0, qh0, h⟩ := obind_some h
  obtain ⟨k1, qh1, h⟩ := obind_some h
  rw [argV_eq ok qh0, argV_eq ok qh1]
  exact call_of (phiE_nat _ _) hs ok mixed Try.func79 (c := laws_markParty_code) (by kernel_rfl) (laws_markParty_lo n) (by kernel_rfl) (by kernel_rfl) (by kernel_rfl) laws_markParty_de ((laws_markParty_tie n a0 k1).trans h)
noncomputable def laws_markBoolS_code : Code := match Try.f46.body with | some c => c | none => .skip
def laws_markBoolS_2_sv : List Sv := [.one (.own 4503599627370496 4 false), .one (.int .i64), .one (.int .i64)]
def laws_markBoolS_2_so : List So := [.arr 4 true]
def laws_markBoolS_2_emb (c : Unit) (x : Int × Int × List Bool) : EVs T laws_markBoolS_2_sv × EOs T laws_markBoolS_2_so := (((), x.1, x.2.1, ()), (x.2.2, ()))
def laws_markBoolS_2_prj (y : EVs T laws_markBoolS_2_sv × EOs T laws_markBoolS_2_so) : Unit × (Int × Int × List Bool) := ((), (y.1.2.1, y.1.2.2.1, y.2.1))
def laws_markBoolS_2_b (n : Nat) {R : Type} (K : Ex → Sm.St T → Option R) (c : Unit) (x : Int × Int × List Bool) (J : (Int × Int × List Bool) → Option R) : Option R :=
  laws_markBoolS_L2 n (fun (y0 : Int) (y1 : List Bool) => K (.exit 0) (stOf (T := T) [1] [4503599627370496] [.one (.int .i64)] [.arr 4 true] (y0, ()) (y1, ()))) (fun z0 z1 z2 => J (z0, z1, z2)) x.1 x.2.1 x.2.2
def laws_markBoolS_2_sp (n : Nat) : LSpec T := mkSpec T ⟨[], [0, 1, 5], [4503599627370496]⟩ laws_markBoolS_2_sv laws_markBoolS_2_so (Unit) (Int × Int × List Bool) laws_markBoolS_2_emb laws_markBoolS_2_prj (laws_markBoolS_2_b n)
noncomputable def laws_markBoolS_2_c : Code := ((loopCodes laws_markBoolS_code)[0]?).getD .skip
def laws_markBoolS_ann : Ann := fun id => bif Nat.beq id 3000002 then some ⟨[], [1], [4503599627370496]⟩ else none
def laws_markBoolS_Ls (n : Nat) : Nat → Option (LSpec T) := fun id => bif Nat.beq id 2 then some (laws_markBoolS_2_sp n) else none
theorem laws_markBoolS_2_le (n : Nat) : LoopEq (T := T) (Phi n 34) (laws_markBoolS_Ls n) laws_markBoolS_ann n laws_markBoolS_2_c (laws_markBoolS_2_sp n) := ⟨mkSpec_dec (fun y => rfl), fun c x => by kernel_rfl, fun K J c x => by kernel_rfl⟩
theorem laws_markBoolS_tie (n : Nat) (a0 : List Bool) (k1 : Int) : evF (T := T) (Phi n 34) (laws_markBoolS_Ls n) laws_markBoolS_ann n Try.f46 (sg 46) [vA T 55 a0, vA T 3 k1] laws_markBoolS_dec = laws_markBoolS n a0 k1 := by kernel_rfl
theorem laws_markBoolS_lo (n : Nat) : LoopsOk (T := T) (Phi n 34) (laws_markBoolS_Ls n) laws_markBoolS_ann n laws_markBoolS_code := loopsOk_all (cs := [laws_markBoolS_2_c]) (by kernel_rfl) ⟨⟨_, by kernel_rfl, laws_markBoolS_2_le n⟩, trivial⟩
theorem laws_markBoolS_ok (n : Nat) : EntOk Try.prog (ents n) (laws_markBoolS_ent n) := by
  intro hs ar y hg h
  replace h : laws_markBoolS_D n ar = some y := h
  unfold laws_markBoolS_D at h
  replace h := ocons_some h
  obtain ⟨a0, r0, rfl, h⟩ := h
  replace h := ocons_some h
  obtain ⟨a1, r1, rfl, h⟩ := h
  replace h := onil_some h
  obtain ⟨rfl, h⟩ := h
  obtain ⟨a0, qh0, h⟩ := obind_some h
  obtain ⟨k1, qh1, h⟩ := obind_some h
  rw [argV_eq ok qh0, argV_eq ok qh1]
  exact call_of (phiE_nat _ _) hs ok mixed Try.func46 (c := laws_markBoolS_code) (by kernel_rfl) (laws_markBoolS_lo n) (by kernel_rfl) (by kernel_rfl) (by kernel_rfl) laws_markBoolS_de ((laws_markBoolS_tie n a0 k1).trans h)
noncomputable def laws_heldStringS_code : Code := match Try.f172.body with | some c => c | none => .skip
def laws_heldStringS_2_sv : List Sv := [.one (.arr 9), .one (.int .i64), .one (.int .i64)]
def laws_heldStringS_2_so : List So := []
def laws_heldStringS_2_emb (c : List ByteArray) (x : Int × Int) : EVs T laws_heldStringS_2_sv × EOs T laws_heldStringS_2_so := ((c, x.1, x.2, ()), ())
def laws_heldStringS_2_prj (y : EVs T laws_heldStringS_2_sv × EOs T laws_heldStringS_2_so) : List ByteArray × (Int × Int) := ((y.1.1), (y.1.2.1, y.1.2.2.1))
def laws_heldStringS_2_b (n : Nat) {R : Type} (K : Ex → Sm.St T → Option R) (c : List ByteArray) (x : Int × Int) (J : (Int × Int) → Option R) : Option R :=
  laws_heldStringS_L2 n (fun (y0 : Int) => K (.exit 0) (stOf (T := T) [1] [] [.one (.int .i64)] [] (y0, ()) ())) (fun (y0 : Int) => K .ret (stOf (T := T) [4] [] [.one (.int .i64)] [] (y0, ()) ())) (fun z0 z1 => J (z0, z1)) c x.1 x.2
def laws_heldStringS_2_sp (n : Nat) : LSpec T := mkSpec T ⟨[], [0, 1, 5], []⟩ laws_heldStringS_2_sv laws_heldStringS_2_so (List ByteArray) (Int × Int) laws_heldStringS_2_emb laws_heldStringS_2_prj (laws_heldStringS_2_b n)
noncomputable def laws_heldStringS_2_c : Code := ((loopCodes laws_heldStringS_code)[0]?).getD .skip
def laws_heldStringS_ann : Ann := fun id => bif Nat.beq id 3000002 then some ⟨[], [1], []⟩ else bif Nat.beq id 2000002 then some ⟨[], [4], []⟩ else none
def laws_heldStringS_Ls (n : Nat) : Nat → Option (LSpec T) := fun id => bif Nat.beq id 2 then some (laws_heldStringS_2_sp n) else none
theorem laws_heldStringS_2_le (n : Nat) : LoopEq (T := T) (Phi n 35) (laws_heldStringS_Ls n) laws_heldStringS_ann n laws_heldStringS_2_c (laws_heldStringS_2_sp n) := ⟨mkSpec_dec (fun y => rfl), fun c x => by kernel_rfl, fun K J c x => by kernel_rfl⟩
theorem laws_heldStringS_tie (n : Nat) (a0 : List ByteArray) (k1 : Int) : evF (T := T) (Phi n 35) (laws_heldStringS_Ls n) laws_heldStringS_ann n Try.f172 (sg 172) [vA T 104 a0, vA T 3 k1] laws_heldStringS_dec = laws_heldStringS n a0 k1 := by kernel_rfl
theorem laws_heldStringS_lo (n : Nat) : LoopsOk (T := T) (Phi n 35) (laws_heldStringS_Ls n) laws_heldStringS_ann n laws_heldStringS_code := loopsOk_all (cs := [laws_heldStringS_2_c]) (by kernel_rfl) ⟨⟨_, by kernel_rfl, laws_heldStringS_2_le n⟩, trivial⟩
theorem laws_heldStringS_ok (n : Nat) : EntOk Try.prog (ents n) (laws_heldStringS_ent n) := by
  intro hs ar y hg h
  replace h : laws_heldStringS_D n ar = some y := h
  unfold laws_heldStringS_D at h
  replace h := ocons_some h
  obtain ⟨a0, r0, rfl, h⟩ := h
  replace h := ocons_some h
  obtain ⟨a1, r1, rfl, h⟩ := h
  replace h := onil_some h
  obtain ⟨rfl, h⟩ := h
  obtain ⟨a0, qh0, h⟩ := obind_some h
  obtain ⟨k1, qh1, h⟩ := obind_some h
  rw [argV_eq ok qh0, argV_eq ok qh1]
  exact call_of (phiE_nat _ _) hs ok mixed Try.func172 (c := laws_heldStringS_code) (by kernel_rfl) (laws_heldStringS_lo n) (by kernel_rfl) (by kernel_rfl) (by kernel_rfl) laws_heldStringS_de ((laws_heldStringS_tie n a0 k1).trans h)
noncomputable def laws_heldParty_code : Code := match Try.f80.body with | some c => c | none => .skip
def laws_heldParty_ann : Ann := fun id => none
def laws_heldParty_Ls (n : Nat) : Nat → Option (LSpec T) := fun id => none
theorem laws_heldParty_tie (n : Nat) (a0 : SParty) (k1 : Int) : evF (T := T) (Phi n 36) (laws_heldParty_Ls n) laws_heldParty_ann n Try.f80 (sg 80) [vA T 108 a0, vA T 3 k1] laws_heldParty_dec = laws_heldParty n a0 k1 := by kernel_rfl
theorem laws_heldParty_lo (n : Nat) : LoopsOk (T := T) (Phi n 36) (laws_heldParty_Ls n) laws_heldParty_ann n laws_heldParty_code := loopsOk_all (cs := []) (by kernel_rfl) trivial
theorem laws_heldParty_ok (n : Nat) : EntOk Try.prog (ents n) (laws_heldParty_ent n) := by
  intro hs ar y hg h
  replace h : laws_heldParty_D n ar = some y := h
  unfold laws_heldParty_D at h
  replace h := ocons_some h
  obtain ⟨a0, r0, rfl, h⟩ := h
  replace h := ocons_some h
  obtain ⟨a1, r1, rfl, h⟩ := h
  replace h := onil_some h
  obtain ⟨rfl, h⟩ := h
  obtain ⟨a0, qh0, h⟩ := obind_some h
  obtain ⟨k1, qh1, h⟩ := obind_some h
  rw [argV_eq ok qh0, argV_eq ok qh1]
  exact call_of (phiE_nat _ _) hs ok mixed Try.func80 (c := laws_heldParty_code) (by kernel_rfl) (laws_heldParty_lo n) (by kernel_rfl) (by kernel_rfl) (by kernel_rfl) laws_heldParty_de ((laws_heldParty_tie n a0 k1).trans h)
noncomputable def laws_FnExactSettle21_code : Code := match Try.f10.body with | some c => c | none => .skip
def laws_FnExactSettle21_ann : Ann := fun id => none
def laws_FnExactSettle21_Ls (n : Nat) : Nat → Option (LSpec T) := fun id => none
theorem laws_FnExactSettle21_tie (n : Nat) (aA0 : SParty) (aB1 : SParty) (aLost2 : List Bool) (aRounds3 : Int) : evF (T := T) (Phi n 37) (laws_FnExactSettle21_Ls n) laws_FnExactSettle21_ann n Try.f10 (sg 10) [vA T 106 aA0, vA T 106 aB1, vA T 55 aLost2, vA T 3 aRounds3] laws_FnExactSettle21_dec = laws_FnExactSettle21 n aA0 aB1 aLost2 aRounds3 := by kernel_rfl
theorem laws_FnExactSettle21_lo (n : Nat) : LoopsOk (T := T) (Phi n 37) (laws_FnExactSettle21_Ls n) laws_FnExactSettle21_ann n laws_FnExactSettle21_code := loopsOk_all (cs := []) (by kernel_rfl) trivial
theorem laws_FnExactSettle21_ok (n : Nat) : EntOk Try.prog (ents n) (laws_FnExactSettle21_ent n) := by
  intro hs ar y hg h
  replace h : laws_FnExactSettle21_D n ar = some y := h
  unfold laws_FnExactSettle21_D at h
  replace h := ocons_some h
  obtain ⟨a0, r0, rfl, h⟩ := h
  replace h := ocons_some h
  obtain ⟨a1, r1, rfl, h⟩ := h
  replace h := ocons_some h
  obtain ⟨a2, r2, rfl, h⟩ := h
  replace h := ocons_some h
  obtain ⟨a3, r3, rfl, h⟩ := h
  replace h := onil_some h
  obtain ⟨rfl, h⟩ := h
  obtain ⟨aA0, qh0, h⟩ := obind_some h
  obtain ⟨aB1, qh1, h⟩ := obind_some h
  obtain ⟨aLost2, qh2, h⟩ := obind_some h
  obtain ⟨aRounds3, qh3, h⟩ := obind_some h
  rw [argV_eq ok qh0, argV_eq ok qh1, argV_eq ok qh2, argV_eq ok qh3]
  exact call_of (phiE_nat _ _) hs ok mixed Try.func10 (c := laws_FnExactSettle21_code) (by kernel_rfl) (laws_FnExactSettle21_lo n) (by kernel_rfl) (by kernel_rfl) (by kernel_rfl) laws_FnExactSettle21_de ((laws_FnExactSettle21_tie n aA0 aB1 aLost2 aRounds3).trans h)
theorem entsOk (n : Nat) : EntsOk Try.prog (ents n) (ents n) := ⟨laws_szStringS_ok n, laws_szParty_ok n, laws_toStringS_ok n, laws_toParty_ok n, laws_toBoolS_ok n, spec_l21Texts_ok n, spec_l1In_ok n, spec_PartyOk_ok n, spec_l21Begins_ok n, spec_l21Copy_ok n, spec_Again21_ok n, spec_Take21_ok n, spec_Settle21_ok n, impl_shortTexts_1_ok n, slices_IndexFunc_string_string__impl_shortTexts_1_ok n, slices_ContainsFunc_string_string__impl_shortTexts_1_ok n, impl_shortTexts_ok n, impl_in_ok n, impl_PartyOk_ok n, slices_Equal_string_string_ok n, impl_begins_ok n, impl_own_string_ok n, impl_Party_own_ok n, impl_own_impl_Post_ok n, impl_Again21_ok n, impl_Take21_ok n, impl_Settle21_1_ok n, impl_Settle21_ok n, laws_eqStringS_ok n, laws_eqParty_ok n, laws_eqBoolS_ok n, laws_markText_ok n, laws_markStringS_ok n, laws_markParty_ok n, laws_markBoolS_ok n, laws_heldStringS_ok n, laws_heldParty_ok n, laws_FnExactSettle21_ok n, trivial⟩
theorem sem (n i : Nat) : SemOk (Phi n i) (CallOk Try.prog T) := phiE_ok (entsOk n) i
end Go.Sm.A10
