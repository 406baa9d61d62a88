import Derived.Test.YtikjficedlkjjaaC3Tb
import Derived.KernelRfl
/- Each function's code computes what the plain function computes. -/
set_option linter.unusedSimpArgs false
set_option linter.deprecated false
set_option linter.unusedSectionVars false
set_option linter.unusedVariables false
set_option maxRecDepth 100000
open Go Go.Proofs
noncomputable section
namespace Go.Sm.C3
/-- By recursors, and of a greater height than all of the functions: the kernel takes these apart first. -/
def obind {α β : Type} (o : Option α) (f : α → Option β) : Option β := let _ := @laws_FnStacks; Option.rec (motive := fun _ => Option β) none (fun a => f a) o
theorem obind_some {α β : Type} {o : Option α} {f : α → Option β} {y : β} (h : obind o f = some y) : ∃ a, o = some a ∧ f a = some y := by
  cases o with
  | none => cases h
  | some a => exact ⟨a, rfl, h⟩
def ocons {β : Type} (l : List (A T)) (f : A T → List (A T) → Option β) : Option β := let _ := @laws_FnStacks; List.rec (motive := fun _ => Option β) none (fun a r _ => f a r) l
theorem ocons_some {β : Type} {l : List (A T)} {f : A T → List (A T) → Option β} {y : β} (h : ocons l f = some y) : ∃ a r, l = a :: r ∧ f a r = some y := by
  cases l with
  | nil => cases h
  | cons a r => exact ⟨a, r, rfl, h⟩
def onil {β : Type} (l : List (A T)) (x : Option β) : Option β := let _ := @laws_FnStacks; List.rec (motive := fun _ => Option β) x (fun _ _ _ => none) l
theorem onil_some {β : Type} {l : List (A T)} {x : Option β} {y : β} (h : onil l x = some y) : l = [] ∧ x = some y := by
  cases l with
  | nil => exact ⟨rfl, h⟩
  | cons a r => cases h
def laws_big_dec (res : Res T) : Option Bool := match res.rets, res.outs with
  | [a0], [] => (retV (T := T) 4 a0).bind fun r0 => some (r0)
  | _, _ => none
def laws_big_enc (y : Bool) : Res T := ⟨[vR T 4 y], []⟩
theorem laws_big_de (res : Res T) (y : Bool) (h : laws_big_dec res = some y) : res = laws_big_enc y := by
  obtain ⟨rets, outs⟩ := res
  unfold laws_big_dec at h
  dsimp only at h
  split at h
  · obtain ⟨r0, h0, h⟩ := Option.bind_eq_some_iff.1 h
    cases h
    rw [retV_eq ok h0]
    rfl
  · cases h
def spec_l1New_dec (res : Res T) : Option Sl1Cur := match res.rets, res.outs with
  | [a0], [] => (retP (T := T) 160 a0).bind fun r0 => some (r0)
  | _, _ => none
def spec_l1New_enc (y : Sl1Cur) : Res T := ⟨[.ptr 160 y], []⟩
theorem spec_l1New_de (res : Res T) (y : Sl1Cur) (h : spec_l1New_dec res = some y) : res = spec_l1New_enc y := by
  obtain ⟨rets, outs⟩ := res
  unfold spec_l1New_dec at h
  dsimp only at h
  split at h
  · obtain ⟨r0, h0, h⟩ := Option.bind_eq_some_iff.1 h
    cases h
    rw [retP_eq h0]
    rfl
  · cases h
def spec_l1Byte_dec (res : Res T) : Option (Int × Sl1Cur) := match res.rets, res.outs with
  | [a0], [b0] => (retV (T := T) 3 a0).bind fun r0 => (outV (T := T) 160 b0).bind fun r1 => some (r0, r1)
  | _, _ => none
def spec_l1Byte_enc (y : Int × Sl1Cur) : Res T := ⟨[vR T 3 y.1], [.var 160 y.2]⟩
theorem spec_l1Byte_de (res : Res T) (y : Int × Sl1Cur) (h : spec_l1Byte_dec res = some y) : res = spec_l1Byte_enc y := by
  obtain ⟨rets, outs⟩ := res
  unfold spec_l1Byte_dec at h
  dsimp only at h
  split at h
  · obtain ⟨r0, h0, h⟩ := Option.bind_eq_some_iff.1 h
    obtain ⟨r1, h1, h⟩ := Option.bind_eq_some_iff.1 h
    cases h
    rw [retV_eq ok h0, outV_eq h1]
    rfl
  · cases h
def spec_l1Below_dec (res : Res T) : Option (Int × Sl1Cur) := match res.rets, res.outs with
  | [a0], [b0] => (retV (T := T) 3 a0).bind fun r0 => (outV (T := T) 160 b0).bind fun r1 => some (r0, r1)
  | _, _ => none
def spec_l1Below_enc (y : Int × Sl1Cur) : Res T := ⟨[vR T 3 y.1], [.var 160 y.2]⟩
theorem spec_l1Below_de (res : Res T) (y : Int × Sl1Cur) (h : spec_l1Below_dec res = some y) : res = spec_l1Below_enc y := by
  obtain ⟨rets, outs⟩ := res
  unfold spec_l1Below_dec at h
  dsimp only at h
  split at h
  · obtain ⟨r0, h0, h⟩ := Option.bind_eq_some_iff.1 h
    obtain ⟨r1, h1, h⟩ := Option.bind_eq_some_iff.1 h
    cases h
    rw [retV_eq ok h0, outV_eq h1]
    rfl
  · cases h
def spec_l1In_dec (res : Res T) : Option Bool := match res.rets, res.outs with
  | [a0], [] => (retV (T := T) 4 a0).bind fun r0 => some (r0)
  | _, _ => none
def spec_l1In_enc (y : Bool) : Res T := ⟨[vR T 4 y], []⟩
theorem spec_l1In_de (res : Res T) (y : Bool) (h : spec_l1In_dec res = some y) : res = spec_l1In_enc y := by
  obtain ⟨rets, outs⟩ := res
  unfold spec_l1In_dec at h
  dsimp only at h
  split at h
  · obtain ⟨r0, h0, h⟩ := Option.bind_eq_some_iff.1 h
    cases h
    rw [retV_eq ok h0]
    rfl
  · cases h
def spec_l11Letter_dec (res : Res T) : Option Int := match res.rets, res.outs with
  | [a0], [] => (retV (T := T) 3 a0).bind fun r0 => some (r0)
  | _, _ => none
def spec_l11Letter_enc (y : Int) : Res T := ⟨[vR T 3 y], []⟩
theorem spec_l11Letter_de (res : Res T) (y : Int) (h : spec_l11Letter_dec res = some y) : res = spec_l11Letter_enc y := by
  obtain ⟨rets, outs⟩ := res
  unfold spec_l11Letter_dec at h
  dsimp only at h
  split at h
  · obtain ⟨r0, h0, h⟩ := Option.bind_eq_some_iff.1 h
    cases h
    rw [retV_eq ok h0]
    rfl
  · cases h
def spec_CheckDigit_dec (res : Res T) : Option Int := match res.rets, res.outs with
  | [a0], [] => (retV (T := T) 3 a0).bind fun r0 => some (r0)
  | _, _ => none
def spec_CheckDigit_enc (y : Int) : Res T := ⟨[vR T 3 y], []⟩
theorem spec_CheckDigit_de (res : Res T) (y : Int) (h : spec_CheckDigit_dec res = some y) : res = spec_CheckDigit_enc y := by
  obtain ⟨rets, outs⟩ := res
  unfold spec_CheckDigit_dec at h
  dsimp only at h
  split at h
  · obtain ⟨r0, h0, h⟩ := Option.bind_eq_some_iff.1 h
    cases h
    rw [retV_eq ok h0]
    rfl
  · cases h
def spec_l11DrawName_dec (res : Res T) : Option (ByteArray × Sl1Cur) := match res.rets, res.outs with
  | [a0], [b0] => (retV (T := T) 9 a0).bind fun r0 => (outV (T := T) 160 b0).bind fun r1 => some (r0, r1)
  | _, _ => none
def spec_l11DrawName_enc (y : ByteArray × Sl1Cur) : Res T := ⟨[vR T 9 y.1], [.var 160 y.2]⟩
theorem spec_l11DrawName_de (res : Res T) (y : ByteArray × Sl1Cur) (h : spec_l11DrawName_dec res = some y) : res = spec_l11DrawName_enc y := by
  obtain ⟨rets, outs⟩ := res
  unfold spec_l11DrawName_dec at h
  dsimp only at h
  split at h
  · obtain ⟨r0, h0, h⟩ := Option.bind_eq_some_iff.1 h
    obtain ⟨r1, h1, h⟩ := Option.bind_eq_some_iff.1 h
    cases h
    rw [retV_eq ok h0, outV_eq h1]
    rfl
  · cases h
def spec_l1Once_dec (res : Res T) : Option (Bool × Sl1Cur) := match res.rets, res.outs with
  | [a0], [b0] => (retV (T := T) 4 a0).bind fun r0 => (outV (T := T) 160 b0).bind fun r1 => some (r0, r1)
  | _, _ => none
def spec_l1Once_enc (y : Bool × Sl1Cur) : Res T := ⟨[vR T 4 y.1], [.var 160 y.2]⟩
theorem spec_l1Once_de (res : Res T) (y : Bool × Sl1Cur) (h : spec_l1Once_dec res = some y) : res = spec_l1Once_enc y := by
  obtain ⟨rets, outs⟩ := res
  unfold spec_l1Once_dec at h
  dsimp only at h
  split at h
  · obtain ⟨r0, h0, h⟩ := Option.bind_eq_some_iff.1 h
    obtain ⟨r1, h1, h⟩ := Option.bind_eq_some_iff.1 h
    cases h
    rw [retV_eq ok h0, outV_eq h1]
    rfl
  · cases h
def spec_l11Draw_dec (res : Res T) : Option (SBox × Sl1Cur) := match res.rets, res.outs with
  | [a0], [b0] => (retV (T := T) 32 a0).bind fun r0 => (outV (T := T) 160 b0).bind fun r1 => some (r0, r1)
  | _, _ => none
def spec_l11Draw_enc (y : SBox × Sl1Cur) : Res T := ⟨[vR T 32 y.1], [.var 160 y.2]⟩
theorem spec_l11Draw_de (res : Res T) (y : SBox × Sl1Cur) (h : spec_l11Draw_dec res = some y) : res = spec_l11Draw_enc y := by
  obtain ⟨rets, outs⟩ := res
  unfold spec_l11Draw_dec at h
  dsimp only at h
  split at h
  · obtain ⟨r0, h0, h⟩ := Option.bind_eq_some_iff.1 h
    obtain ⟨r1, h1, h⟩ := Option.bind_eq_some_iff.1 h
    cases h
    rw [retV_eq ok h0, outV_eq h1]
    rfl
  · cases h
def spec_l1Pick_dec (res : Res T) : Option (ByteArray × Sl1Cur) := match res.rets, res.outs with
  | [a0], [b0] => (retV (T := T) 9 a0).bind fun r0 => (outV (T := T) 160 b0).bind fun r1 => some (r0, r1)
  | _, _ => none
def spec_l1Pick_enc (y : ByteArray × Sl1Cur) : Res T := ⟨[vR T 9 y.1], [.var 160 y.2]⟩
theorem spec_l1Pick_de (res : Res T) (y : ByteArray × Sl1Cur) (h : spec_l1Pick_dec res = some y) : res = spec_l1Pick_enc y := by
  obtain ⟨rets, outs⟩ := res
  unfold spec_l1Pick_dec at h
  dsimp only at h
  split at h
  · obtain ⟨r0, h0, h⟩ := Option.bind_eq_some_iff.1 h
    obtain ⟨r1, h1, h⟩ := Option.bind_eq_some_iff.1 h
    cases h
    rw [retV_eq ok h0, outV_eq h1]
    rfl
  · cases h
def spec_l11DrawText_dec (res : Res T) : Option (ByteArray × Sl1Cur) := match res.rets, res.outs with
  | [a0], [b0] => (retV (T := T) 9 a0).bind fun r0 => (outV (T := T) 160 b0).bind fun r1 => some (r0, r1)
  | _, _ => none
def spec_l11DrawText_enc (y : ByteArray × Sl1Cur) : Res T := ⟨[vR T 9 y.1], [.var 160 y.2]⟩
theorem spec_l11DrawText_de (res : Res T) (y : ByteArray × Sl1Cur) (h : spec_l11DrawText_dec res = some y) : res = spec_l11DrawText_enc y := by
  obtain ⟨rets, outs⟩ := res
  unfold spec_l11DrawText_dec at h
  dsimp only at h
  split at h
  · obtain ⟨r0, h0, h⟩ := Option.bind_eq_some_iff.1 h
    obtain ⟨r1, h1, h⟩ := Option.bind_eq_some_iff.1 h
    cases h
    rw [retV_eq ok h0, outV_eq h1]
    rfl
  · cases h
def spec_l1PickInt_dec (res : Res T) : Option (Int × Sl1Cur) := match res.rets, res.outs with
  | [a0], [b0] => (retV (T := T) 3 a0).bind fun r0 => (outV (T := T) 160 b0).bind fun r1 => some (r0, r1)
  | _, _ => none
def spec_l1PickInt_enc (y : Int × Sl1Cur) : Res T := ⟨[vR T 3 y.1], [.var 160 y.2]⟩
theorem spec_l1PickInt_de (res : Res T) (y : Int × Sl1Cur) (h : spec_l1PickInt_dec res = some y) : res = spec_l1PickInt_enc y := by
  obtain ⟨rets, outs⟩ := res
  unfold spec_l1PickInt_dec at h
  dsimp only at h
  split at h
  · obtain ⟨r0, h0, h⟩ := Option.bind_eq_some_iff.1 h
    obtain ⟨r1, h1, h⟩ := Option.bind_eq_some_iff.1 h
    cases h
    rw [retV_eq ok h0, outV_eq h1]
    rfl
  · cases h
def spec_l11DrawAny_dec (res : Res T) : Option (SBox × Sl1Cur) := match res.rets, res.outs with
  | [a0], [b0] => (retV (T := T) 32 a0).bind fun r0 => (outV (T := T) 160 b0).bind fun r1 => some (r0, r1)
  | _, _ => none
def spec_l11DrawAny_enc (y : SBox × Sl1Cur) : Res T := ⟨[vR T 32 y.1], [.var 160 y.2]⟩
theorem spec_l11DrawAny_de (res : Res T) (y : SBox × Sl1Cur) (h : spec_l11DrawAny_dec res = some y) : res = spec_l11DrawAny_enc y := by
  obtain ⟨rets, outs⟩ := res
  unfold spec_l11DrawAny_dec at h
  dsimp only at h
  split at h
  · obtain ⟨r0, h0, h⟩ := Option.bind_eq_some_iff.1 h
    obtain ⟨r1, h1, h⟩ := Option.bind_eq_some_iff.1 h
    cases h
    rw [retV_eq ok h0, outV_eq h1]
    rfl
  · cases h
def spec_l11DrawStack_dec (res : Res T) : Option (List SBox × Sl1Cur) := match res.rets, res.outs with
  | [a0], [b0] => (retV (T := T) 24 a0).bind fun r0 => (outV (T := T) 160 b0).bind fun r1 => some (r0, r1)
  | _, _ => none
def spec_l11DrawStack_enc (y : List SBox × Sl1Cur) : Res T := ⟨[vR T 24 y.1], [.var 160 y.2]⟩
theorem spec_l11DrawStack_de (res : Res T) (y : List SBox × Sl1Cur) (h : spec_l11DrawStack_dec res = some y) : res = spec_l11DrawStack_enc y := by
  obtain ⟨rets, outs⟩ := res
  unfold spec_l11DrawStack_dec at h
  dsimp only at h
  split at h
  · obtain ⟨r0, h0, h⟩ := Option.bind_eq_some_iff.1 h
    obtain ⟨r1, h1, h⟩ := Option.bind_eq_some_iff.1 h
    cases h
    rw [retV_eq ok h0, outV_eq h1]
    rfl
  · cases h
def spec_DrawStackOk_dec (res : Res T) : Option (List SBox × Int) := match res.rets, res.outs with
  | [a0, a1], [] => (retV (T := T) 24 a0).bind fun r0 => (retV (T := T) 3 a1).bind fun r1 => some (r0, r1)
  | _, _ => none
def spec_DrawStackOk_enc (y : List SBox × Int) : Res T := ⟨[vR T 24 y.1, vR T 3 y.2], []⟩
theorem spec_DrawStackOk_de (res : Res T) (y : List SBox × Int) (h : spec_DrawStackOk_dec res = some y) : res = spec_DrawStackOk_enc y := by
  obtain ⟨rets, outs⟩ := res
  unfold spec_DrawStackOk_dec at h
  dsimp only at h
  split at h
  · obtain ⟨r0, h0, h⟩ := Option.bind_eq_some_iff.1 h
    obtain ⟨r1, h1, h⟩ := Option.bind_eq_some_iff.1 h
    cases h
    rw [retV_eq ok h0, retV_eq ok h1]
    rfl
  · cases h
def impl_in_dec (res : Res T) : Option Bool := match res.rets, res.outs with
  | [a0], [] => (retV (T := T) 4 a0).bind fun r0 => some (r0)
  | _, _ => none
def impl_in_enc (y : Bool) : Res T := ⟨[vR T 4 y], []⟩
theorem impl_in_de (res : Res T) (y : Bool) (h : impl_in_dec res = some y) : res = impl_in_enc y := by
  obtain ⟨rets, outs⟩ := res
  unfold impl_in_dec at h
  dsimp only at h
  split at h
  · obtain ⟨r0, h0, h⟩ := Option.bind_eq_some_iff.1 h
    cases h
    rw [retV_eq ok h0]
    rfl
  · cases h
def impl_valueOf_dec (res : Res T) : Option Int := match res.rets, res.outs with
  | [a0], [] => (retV (T := T) 3 a0).bind fun r0 => some (r0)
  | _, _ => none
def impl_valueOf_enc (y : Int) : Res T := ⟨[vR T 3 y], []⟩
theorem impl_valueOf_de (res : Res T) (y : Int) (h : impl_valueOf_dec res = some y) : res = impl_valueOf_enc y := by
  obtain ⟨rets, outs⟩ := res
  unfold impl_valueOf_dec at h
  dsimp only at h
  split at h
  · obtain ⟨r0, h0, h⟩ := Option.bind_eq_some_iff.1 h
    cases h
    rw [retV_eq ok h0]
    rfl
  · cases h
def impl_CheckDigit_dec (res : Res T) : Option Int := match res.rets, res.outs with
  | [a0], [] => (retV (T := T) 3 a0).bind fun r0 => some (r0)
  | _, _ => none
def impl_CheckDigit_enc (y : Int) : Res T := ⟨[vR T 3 y], []⟩
theorem impl_CheckDigit_de (res : Res T) (y : Int) (h : impl_CheckDigit_dec res = some y) : res = impl_CheckDigit_enc y := by
  obtain ⟨rets, outs⟩ := res
  unfold impl_CheckDigit_dec at h
  dsimp only at h
  split at h
  · obtain ⟨r0, h0, h⟩ := Option.bind_eq_some_iff.1 h
    cases h
    rw [retV_eq ok h0]
    rfl
  · cases h
def impl_BoxName_dec (res : Res T) : Option Bool := match res.rets, res.outs with
  | [a0], [] => (retV (T := T) 4 a0).bind fun r0 => some (r0)
  | _, _ => none
def impl_BoxName_enc (y : Bool) : Res T := ⟨[vR T 4 y], []⟩
theorem impl_BoxName_de (res : Res T) (y : Bool) (h : impl_BoxName_dec res = some y) : res = impl_BoxName_enc y := by
  obtain ⟨rets, outs⟩ := res
  unfold impl_BoxName_dec at h
  dsimp only at h
  split at h
  · obtain ⟨r0, h0, h⟩ := Option.bind_eq_some_iff.1 h
    cases h
    rw [retV_eq ok h0]
    rfl
  · cases h
def impl_portOk_dec (res : Res T) : Option Bool := match res.rets, res.outs with
  | [a0], [] => (retV (T := T) 4 a0).bind fun r0 => some (r0)
  | _, _ => none
def impl_portOk_enc (y : Bool) : Res T := ⟨[vR T 4 y], []⟩
theorem impl_portOk_de (res : Res T) (y : Bool) (h : impl_portOk_dec res = some y) : res = impl_portOk_enc y := by
  obtain ⟨rets, outs⟩ := res
  unfold impl_portOk_dec at h
  dsimp only at h
  split at h
  · obtain ⟨r0, h0, h⟩ := Option.bind_eq_some_iff.1 h
    cases h
    rw [retV_eq ok h0]
    rfl
  · cases h
def impl_BoxOk_dec (res : Res T) : Option Bool := match res.rets, res.outs with
  | [a0], [] => (retV (T := T) 4 a0).bind fun r0 => some (r0)
  | _, _ => none
def impl_BoxOk_enc (y : Bool) : Res T := ⟨[vR T 4 y], []⟩
theorem impl_BoxOk_de (res : Res T) (y : Bool) (h : impl_BoxOk_dec res = some y) : res = impl_BoxOk_enc y := by
  obtain ⟨rets, outs⟩ := res
  unfold impl_BoxOk_dec at h
  dsimp only at h
  split at h
  · obtain ⟨r0, h0, h⟩ := Option.bind_eq_some_iff.1 h
    cases h
    rw [retV_eq ok h0]
    rfl
  · cases h
def impl_StackOk_dec (res : Res T) : Option Bool := match res.rets, res.outs with
  | [a0], [] => (retV (T := T) 4 a0).bind fun r0 => some (r0)
  | _, _ => none
def impl_StackOk_enc (y : Bool) : Res T := ⟨[vR T 4 y], []⟩
theorem impl_StackOk_de (res : Res T) (y : Bool) (h : impl_StackOk_dec res = some y) : res = impl_StackOk_enc y := by
  obtain ⟨rets, outs⟩ := res
  unfold impl_StackOk_dec at h
  dsimp only at h
  split at h
  · obtain ⟨r0, h0, h⟩ := Option.bind_eq_some_iff.1 h
    cases h
    rw [retV_eq ok h0]
    rfl
  · cases h
def spec_BoxName_dec (res : Res T) : Option Bool := match res.rets, res.outs with
  | [a0], [] => (retV (T := T) 4 a0).bind fun r0 => some (r0)
  | _, _ => none
def spec_BoxName_enc (y : Bool) : Res T := ⟨[vR T 4 y], []⟩
theorem spec_BoxName_de (res : Res T) (y : Bool) (h : spec_BoxName_dec res = some y) : res = spec_BoxName_enc y := by
  obtain ⟨rets, outs⟩ := res
  unfold spec_BoxName_dec at h
  dsimp only at h
  split at h
  · obtain ⟨r0, h0, h⟩ := Option.bind_eq_some_iff.1 h
    cases h
    rw [retV_eq ok h0]
    rfl
  · cases h
def spec_BoxOk_dec (res : Res T) : Option Bool := match res.rets, res.outs with
  | [a0], [] => (retV (T := T) 4 a0).bind fun r0 => some (r0)
  | _, _ => none
def spec_BoxOk_enc (y : Bool) : Res T := ⟨[vR T 4 y], []⟩
theorem spec_BoxOk_de (res : Res T) (y : Bool) (h : spec_BoxOk_dec res = some y) : res = spec_BoxOk_enc y := by
  obtain ⟨rets, outs⟩ := res
  unfold spec_BoxOk_dec at h
  dsimp only at h
  split at h
  · obtain ⟨r0, h0, h⟩ := Option.bind_eq_some_iff.1 h
    cases h
    rw [retV_eq ok h0]
    rfl
  · cases h
def spec_StackOk_dec (res : Res T) : Option Bool := match res.rets, res.outs with
  | [a0], [] => (retV (T := T) 4 a0).bind fun r0 => some (r0)
  | _, _ => none
def spec_StackOk_enc (y : Bool) : Res T := ⟨[vR T 4 y], []⟩
theorem spec_StackOk_de (res : Res T) (y : Bool) (h : spec_StackOk_dec res = some y) : res = spec_StackOk_enc y := by
  obtain ⟨rets, outs⟩ := res
  unfold spec_StackOk_dec at h
  dsimp only at h
  split at h
  · obtain ⟨r0, h0, h⟩ := Option.bind_eq_some_iff.1 h
    cases h
    rw [retV_eq ok h0]
    rfl
  · cases h
def laws_at_dec (res : Res T) : Option Int := match res.rets, res.outs with
  | [a0], [] => (retV (T := T) 3 a0).bind fun r0 => some (r0)
  | _, _ => none
def laws_at_enc (y : Int) : Res T := ⟨[vR T 3 y], []⟩
theorem laws_at_de (res : Res T) (y : Int) (h : laws_at_dec res = some y) : res = laws_at_enc y := by
  obtain ⟨rets, outs⟩ := res
  unfold laws_at_dec at h
  dsimp only at h
  split at h
  · obtain ⟨r0, h0, h⟩ := Option.bind_eq_some_iff.1 h
    cases h
    rw [retV_eq ok h0]
    rfl
  · cases h
def impl_Lashes_1_dec (res : Res T) : Option Bool := match res.rets, res.outs with
  | [a0], [] => (retV (T := T) 4 a0).bind fun r0 => some (r0)
  | _, _ => none
def impl_Lashes_1_enc (y : Bool) : Res T := ⟨[vR T 4 y], []⟩
theorem impl_Lashes_1_de (res : Res T) (y : Bool) (h : impl_Lashes_1_dec res = some y) : res = impl_Lashes_1_enc y := by
  obtain ⟨rets, outs⟩ := res
  unfold impl_Lashes_1_dec at h
  dsimp only at h
  split at h
  · obtain ⟨r0, h0, h⟩ := Option.bind_eq_some_iff.1 h
    cases h
    rw [retV_eq ok h0]
    rfl
  · cases h
def slices_IndexFunc_impl_Box_impl_Box__impl_Lashes_1_dec (res : Res T) : Option Int := match res.rets, res.outs with
  | [a0], [] => (retV (T := T) 3 a0).bind fun r0 => some (r0)
  | _, _ => none
def slices_IndexFunc_impl_Box_impl_Box__impl_Lashes_1_enc (y : Int) : Res T := ⟨[vR T 3 y], []⟩
theorem slices_IndexFunc_impl_Box_impl_Box__impl_Lashes_1_de (res : Res T) (y : Int) (h : slices_IndexFunc_impl_Box_impl_Box__impl_Lashes_1_dec res = some y) : res = slices_IndexFunc_impl_Box_impl_Box__impl_Lashes_1_enc y := by
  obtain ⟨rets, outs⟩ := res
  unfold slices_IndexFunc_impl_Box_impl_Box__impl_Lashes_1_dec at h
  dsimp only at h
  split at h
  · obtain ⟨r0, h0, h⟩ := Option.bind_eq_some_iff.1 h
    cases h
    rw [retV_eq ok h0]
    rfl
  · cases h
def slices_ContainsFunc_impl_Box_impl_Box__impl_Lashes_1_dec (res : Res T) : Option Bool := match res.rets, res.outs with
  | [a0], [] => (retV (T := T) 4 a0).bind fun r0 => some (r0)
  | _, _ => none
def slices_ContainsFunc_impl_Box_impl_Box__impl_Lashes_1_enc (y : Bool) : Res T := ⟨[vR T 4 y], []⟩
theorem slices_ContainsFunc_impl_Box_impl_Box__impl_Lashes_1_de (res : Res T) (y : Bool) (h : slices_ContainsFunc_impl_Box_impl_Box__impl_Lashes_1_dec res = some y) : res = slices_ContainsFunc_impl_Box_impl_Box__impl_Lashes_1_enc y := by
  obtain ⟨rets, outs⟩ := res
  unfold slices_ContainsFunc_impl_Box_impl_Box__impl_Lashes_1_dec at h
  dsimp only at h
  split at h
  · obtain ⟨r0, h0, h⟩ := Option.bind_eq_some_iff.1 h
    cases h
    rw [retV_eq ok h0]
    rfl
  · cases h
def impl_Lashes_dec (res : Res T) : Option (Int × Bool) := match res.rets, res.outs with
  | [a0, a1], [] => (retV (T := T) 3 a0).bind fun r0 => (retV (T := T) 4 a1).bind fun r1 => some (r0, r1)
  | _, _ => none
def impl_Lashes_enc (y : Int × Bool) : Res T := ⟨[vR T 3 y.1, vR T 4 y.2], []⟩
theorem impl_Lashes_de (res : Res T) (y : Int × Bool) (h : impl_Lashes_dec res = some y) : res = impl_Lashes_enc y := by
  obtain ⟨rets, outs⟩ := res
  unfold impl_Lashes_dec at h
  dsimp only at h
  split at h
  · obtain ⟨r0, h0, h⟩ := Option.bind_eq_some_iff.1 h
    obtain ⟨r1, h1, h⟩ := Option.bind_eq_some_iff.1 h
    cases h
    rw [retV_eq ok h0, retV_eq ok h1]
    rfl
  · cases h
def spec_Lashes_dec (res : Res T) : Option (Int × Bool) := match res.rets, res.outs with
  | [a0, a1], [] => (retV (T := T) 3 a0).bind fun r0 => (retV (T := T) 4 a1).bind fun r1 => some (r0, r1)
  | _, _ => none
def spec_Lashes_enc (y : Int × Bool) : Res T := ⟨[vR T 3 y.1, vR T 4 y.2], []⟩
theorem spec_Lashes_de (res : Res T) (y : Int × Bool) (h : spec_Lashes_dec res = some y) : res = spec_Lashes_enc y := by
  obtain ⟨rets, outs⟩ := res
  unfold spec_Lashes_dec at h
  dsimp only at h
  split at h
  · obtain ⟨r0, h0, h⟩ := Option.bind_eq_some_iff.1 h
    obtain ⟨r1, h1, h⟩ := Option.bind_eq_some_iff.1 h
    cases h
    rw [retV_eq ok h0, retV_eq ok h1]
    rfl
  · cases h
def laws_FnStacks_dec (res : Res T) : Option Bool := match res.rets, res.outs with
  | [a0], [] => (retV (T := T) 4 a0).bind fun r0 => some (r0)
  | _, _ => none
def laws_FnStacks_enc (y : Bool) : Res T := ⟨[vR T 4 y], []⟩
theorem laws_FnStacks_de (res : Res T) (y : Bool) (h : laws_FnStacks_dec res = some y) : res = laws_FnStacks_enc y := by
  obtain ⟨rets, outs⟩ := res
  unfold laws_FnStacks_dec at h
  dsimp only at h
  split at h
  · obtain ⟨r0, h0, h⟩ := Option.bind_eq_some_iff.1 h
    cases h
    rw [retV_eq ok h0]
    rfl
  · cases h
def laws_big_D (n : Nat) (r0 : List (A T)) : Option Bool := ocons r0 fun a0 r1 => onil r1 (obind (argV (T := T) 22 a0) fun code0 => laws_big n code0)
def laws_big_ent (n : Nat) : Ent T := ⟨12, 0, [], Bool, laws_big_D n, laws_big_enc⟩
def spec_l1New_D (n : Nat) (r0 : List (A T)) : Option Sl1Cur := ocons r0 fun a0 r1 => onil r1 (obind (argV (T := T) 22 a0) fun code0 => spec_l1New n code0)
def spec_l1New_ent (n : Nat) : Ent T := ⟨65, 1, [], Sl1Cur, spec_l1New_D n, spec_l1New_enc⟩
def spec_l1Byte_D (n : Nat) (r0 : List (A T)) : Option (Int × Sl1Cur) := ocons r0 fun a0 r1 => onil r1 (obind (argP (T := T) 160 a0) fun c0 => spec_l1Byte n c0)
def spec_l1Byte_ent (n : Nat) : Ent T := ⟨143, 2, [], Int × Sl1Cur, spec_l1Byte_D n, spec_l1Byte_enc⟩
def spec_l1Below_D (n : Nat) (r0 : List (A T)) : Option (Int × Sl1Cur) := ocons r0 fun a0 r1 => ocons r1 fun a1 r2 => onil r2 (obind (argP (T := T) 160 a0) fun c0 => obind (argV (T := T) 3 a1) fun n1 => spec_l1Below n c0 n1)
def spec_l1Below_ent (n : Nat) : Ent T := ⟨76, 3, [], Int × Sl1Cur, spec_l1Below_D n, spec_l1Below_enc⟩
def spec_l1In_D (n : Nat) (r0 : List (A T)) : Option Bool := ocons r0 fun a0 r1 => ocons r1 fun a1 r2 => ocons r2 fun a2 r3 => onil r3 (obind (argV (T := T) 3 a0) fun x0 => obind (argV (T := T) 3 a1) fun a1 => obind (argV (T := T) 3 a2) fun b2 => spec_l1In n x0 a1 b2)
def spec_l1In_ent (n : Nat) : Ent T := ⟨71, 4, [], Bool, spec_l1In_D n, spec_l1In_enc⟩
def spec_l11Letter_D (n : Nat) (r0 : List (A T)) : Option Int := ocons r0 fun a0 r1 => onil r1 (obind (argV (T := T) 3 a0) fun k0 => spec_l11Letter n k0)
def spec_l11Letter_ent (n : Nat) : Ent T := ⟨181, 5, [], Int, spec_l11Letter_D n, spec_l11Letter_enc⟩
def spec_CheckDigit_D (n : Nat) (r0 : List (A T)) : Option Int := ocons r0 fun a0 r1 => onil r1 (obind (argV (T := T) 9 a0) fun name0 => spec_CheckDigit n name0)
def spec_CheckDigit_ent (n : Nat) : Ent T := ⟨170, 6, [], Int, spec_CheckDigit_D n, spec_CheckDigit_enc⟩
def spec_l11DrawName_D (n : Nat) (r0 : List (A T)) : Option (ByteArray × Sl1Cur) := ocons r0 fun a0 r1 => onil r1 (obind (argP (T := T) 160 a0) fun c0 => spec_l11DrawName n c0)
def spec_l11DrawName_ent (n : Nat) : Ent T := ⟨156, 7, [], ByteArray × Sl1Cur, spec_l11DrawName_D n, spec_l11DrawName_enc⟩
def spec_l1Once_D (n : Nat) (r0 : List (A T)) : Option (Bool × Sl1Cur) := ocons r0 fun a0 r1 => ocons r1 fun a1 r2 => onil r2 (obind (argP (T := T) 160 a0) fun c0 => obind (argV (T := T) 3 a1) fun n1 => spec_l1Once n c0 n1)
def spec_l1Once_ent (n : Nat) : Ent T := ⟨78, 8, [], Bool × Sl1Cur, spec_l1Once_D n, spec_l1Once_enc⟩
def spec_l11Draw_D (n : Nat) (r0 : List (A T)) : Option (SBox × Sl1Cur) := ocons r0 fun a0 r1 => onil r1 (obind (argP (T := T) 160 a0) fun c0 => spec_l11Draw n c0)
def spec_l11Draw_ent (n : Nat) : Ent T := ⟨100, 9, [], SBox × Sl1Cur, spec_l11Draw_D n, spec_l11Draw_enc⟩
def spec_l1Pick_D (n : Nat) (r0 : List (A T)) : Option (ByteArray × Sl1Cur) := ocons r0 fun a0 r1 => ocons r1 fun a1 r2 => onil r2 (obind (argP (T := T) 160 a0) fun c0 => obind (argV (T := T) 186 a1) fun list1 => spec_l1Pick n c0 list1)
def spec_l1Pick_ent (n : Nat) : Ent T := ⟨178, 10, [], ByteArray × Sl1Cur, spec_l1Pick_D n, spec_l1Pick_enc⟩
def spec_l11DrawText_D (n : Nat) (r0 : List (A T)) : Option (ByteArray × Sl1Cur) := ocons r0 fun a0 r1 => onil r1 (obind (argP (T := T) 160 a0) fun c0 => spec_l11DrawText n c0)
def spec_l11DrawText_ent (n : Nat) : Ent T := ⟨157, 11, [], ByteArray × Sl1Cur, spec_l11DrawText_D n, spec_l11DrawText_enc⟩
def spec_l1PickInt_D (n : Nat) (r0 : List (A T)) : Option (Int × Sl1Cur) := ocons r0 fun a0 r1 => ocons r1 fun a1 r2 => onil r2 (obind (argP (T := T) 160 a0) fun c0 => obind (argV (T := T) 41 a1) fun list1 => spec_l1PickInt n c0 list1)
def spec_l1PickInt_ent (n : Nat) : Ent T := ⟨67, 12, [], Int × Sl1Cur, spec_l1PickInt_D n, spec_l1PickInt_enc⟩
def spec_l11DrawAny_D (n : Nat) (r0 : List (A T)) : Option (SBox × Sl1Cur) := ocons r0 fun a0 r1 => onil r1 (obind (argP (T := T) 160 a0) fun c0 => spec_l11DrawAny n c0)
def spec_l11DrawAny_ent (n : Nat) : Ent T := ⟨101, 13, [], SBox × Sl1Cur, spec_l11DrawAny_D n, spec_l11DrawAny_enc⟩
def spec_l11DrawStack_D (n : Nat) (r0 : List (A T)) : Option (List SBox × Sl1Cur) := ocons r0 fun a0 r1 => onil r1 (obind (argP (T := T) 160 a0) fun c0 => spec_l11DrawStack n c0)
def spec_l11DrawStack_ent (n : Nat) : Ent T := ⟨66, 14, [], List SBox × Sl1Cur, spec_l11DrawStack_D n, spec_l11DrawStack_enc⟩
def spec_DrawStackOk_D (n : Nat) (r0 : List (A T)) : Option (List SBox × Int) := ocons r0 fun a0 r1 => onil r1 (obind (argV (T := T) 22 a0) fun code0 => spec_DrawStackOk n code0)
def spec_DrawStackOk_ent (n : Nat) : Ent T := ⟨13, 15, [], List SBox × Int, spec_DrawStackOk_D n, spec_DrawStackOk_enc⟩
def impl_in_D (n : Nat) (r0 : List (A T)) : Option Bool := ocons r0 fun a0 r1 => ocons r1 fun a1 r2 => ocons r2 fun a2 r3 => onil r3 (obind (argV (T := T) 3 a0) fun n0 => obind (argV (T := T) 3 a1) fun least1 => obind (argV (T := T) 3 a2) fun most2 => impl_in n n0 least1 most2)
def impl_in_ent (n : Nat) : Ent T := ⟨68, 16, [], Bool, impl_in_D n, impl_in_enc⟩
def impl_valueOf_D (n : Nat) (r0 : List (A T)) : Option Int := ocons r0 fun a0 r1 => onil r1 (obind (argV (T := T) 5 a0) fun c0 => impl_valueOf n c0)
def impl_valueOf_ent (n : Nat) : Ent T := ⟨180, 17, [], Int, impl_valueOf_D n, impl_valueOf_enc⟩
def impl_CheckDigit_D (n : Nat) (r0 : List (A T)) : Option Int := ocons r0 fun a0 r1 => onil r1 (obind (argV (T := T) 9 a0) fun name0 => impl_CheckDigit n name0)
def impl_CheckDigit_ent (n : Nat) : Ent T := ⟨169, 18, [], Int, impl_CheckDigit_D n, impl_CheckDigit_enc⟩
def impl_BoxName_D (n : Nat) (r0 : List (A T)) : Option Bool := ocons r0 fun a0 r1 => onil r1 (obind (argV (T := T) 9 a0) fun text0 => impl_BoxName n text0)
def impl_BoxName_ent (n : Nat) : Ent T := ⟨139, 19, [], Bool, impl_BoxName_D n, impl_BoxName_enc⟩
def impl_portOk_D (n : Nat) (r0 : List (A T)) : Option Bool := ocons r0 fun a0 r1 => onil r1 (obind (argV (T := T) 3 a0) fun n0 => impl_portOk n n0)
def impl_portOk_ent (n : Nat) : Ent T := ⟨81, 20, [], Bool, impl_portOk_D n, impl_portOk_enc⟩
def impl_BoxOk_D (n : Nat) (r0 : List (A T)) : Option Bool := ocons r0 fun a0 r1 => onil r1 (obind (argV (T := T) 32 a0) fun b0 => impl_BoxOk n b0)
def impl_BoxOk_ent (n : Nat) : Ent T := ⟨69, 21, [], Bool, impl_BoxOk_D n, impl_BoxOk_enc⟩
def impl_StackOk_D (n : Nat) (r0 : List (A T)) : Option Bool := ocons r0 fun a0 r1 => ocons r1 fun a1 r2 => onil r2 (obind (argV (T := T) 24 a0) fun boxes0 => obind (argV (T := T) 3 a1) fun most1 => impl_StackOk n boxes0 most1)
def impl_StackOk_ent (n : Nat) : Ent T := ⟨14, 22, [], Bool, impl_StackOk_D n, impl_StackOk_enc⟩
def spec_BoxName_D (n : Nat) (r0 : List (A T)) : Option Bool := ocons r0 fun a0 r1 => onil r1 (obind (argV (T := T) 9 a0) fun text0 => spec_BoxName n text0)
def spec_BoxName_ent (n : Nat) : Ent T := ⟨140, 23, [], Bool, spec_BoxName_D n, spec_BoxName_enc⟩
def spec_BoxOk_D (n : Nat) (r0 : List (A T)) : Option Bool := ocons r0 fun a0 r1 => onil r1 (obind (argV (T := T) 32 a0) fun b0 => spec_BoxOk n b0)
def spec_BoxOk_ent (n : Nat) : Ent T := ⟨70, 24, [], Bool, spec_BoxOk_D n, spec_BoxOk_enc⟩
def spec_StackOk_D (n : Nat) (r0 : List (A T)) : Option Bool := ocons r0 fun a0 r1 => ocons r1 fun a1 r2 => onil r2 (obind (argV (T := T) 24 a0) fun boxes0 => obind (argV (T := T) 3 a1) fun most1 => spec_StackOk n boxes0 most1)
def spec_StackOk_ent (n : Nat) : Ent T := ⟨15, 25, [], Bool, spec_StackOk_D n, spec_StackOk_enc⟩
def laws_at_D (n : Nat) (r0 : List (A T)) : Option Int := ocons r0 fun a0 r1 => ocons r1 fun a1 r2 => onil r2 (obind (argV (T := T) 22 a0) fun code0 => obind (argV (T := T) 3 a1) fun i1 => laws_at n code0 i1)
def laws_at_ent (n : Nat) : Ent T := ⟨17, 26, [], Int, laws_at_D n, laws_at_enc⟩
def impl_Lashes_1_D (n : Nat) (r0 : List (A T)) : Option Bool := ocons r0 fun a0 r1 => onil r1 (obind (argV (T := T) 32 a0) fun b0 => impl_Lashes_1 n b0)
def impl_Lashes_1_ent (n : Nat) : Ent T := ⟨73, 27, [], Bool, impl_Lashes_1_D n, impl_Lashes_1_enc⟩
def slices_IndexFunc_impl_Box_impl_Box__impl_Lashes_1_D (n : Nat) (ar : List (A T)) : Option Int := match ar with
  | [a0, .fn _ []] => obind (argV (T := T) 24 a0) fun s0 => slices_IndexFunc_impl_Box_impl_Box__impl_Lashes_1 n s0
  | _ => none
def slices_IndexFunc_impl_Box_impl_Box__impl_Lashes_1_ent (n : Nat) : Ent T := ⟨141, 28, [73], Int, slices_IndexFunc_impl_Box_impl_Box__impl_Lashes_1_D n, slices_IndexFunc_impl_Box_impl_Box__impl_Lashes_1_enc⟩
def slices_ContainsFunc_impl_Box_impl_Box__impl_Lashes_1_D (n : Nat) (ar : List (A T)) : Option Bool := match ar with
  | [a0, .fn _ []] => obind (argV (T := T) 24 a0) fun s0 => slices_ContainsFunc_impl_Box_impl_Box__impl_Lashes_1 n s0
  | _ => none
def slices_ContainsFunc_impl_Box_impl_Box__impl_Lashes_1_ent (n : Nat) : Ent T := ⟨72, 29, [73], Bool, slices_ContainsFunc_impl_Box_impl_Box__impl_Lashes_1_D n, slices_ContainsFunc_impl_Box_impl_Box__impl_Lashes_1_enc⟩
def impl_Lashes_D (n : Nat) (r0 : List (A T)) : Option (Int × Bool) := ocons r0 fun a0 r1 => ocons r1 fun a1 r2 => onil r2 (obind (argV (T := T) 24 a0) fun boxes0 => obind (argV (T := T) 3 a1) fun wind1 => impl_Lashes n boxes0 wind1)
def impl_Lashes_ent (n : Nat) : Ent T := ⟨16, 30, [], Int × Bool, impl_Lashes_D n, impl_Lashes_enc⟩
def spec_Lashes_D (n : Nat) (r0 : List (A T)) : Option (Int × Bool) := ocons r0 fun a0 r1 => ocons r1 fun a1 r2 => onil r2 (obind (argV (T := T) 24 a0) fun boxes0 => obind (argV (T := T) 3 a1) fun wind1 => spec_Lashes n boxes0 wind1)
def spec_Lashes_ent (n : Nat) : Ent T := ⟨18, 31, [], Int × Bool, spec_Lashes_D n, spec_Lashes_enc⟩
def laws_FnStacks_D (n : Nat) (r0 : List (A T)) : Option Bool := ocons r0 fun a0 r1 => onil r1 (obind (argV (T := T) 22 a0) fun code0 => laws_FnStacks n code0)
def laws_FnStacks_ent (n : Nat) : Ent T := ⟨3, 32, [], Bool, laws_FnStacks_D n, laws_FnStacks_enc⟩
def ents (n : Nat) : List (Ent T) := [laws_big_ent n, spec_l1New_ent n, spec_l1Byte_ent n, spec_l1Below_ent n, spec_l1In_ent n, spec_l11Letter_ent n, spec_CheckDigit_ent n, spec_l11DrawName_ent n, spec_l1Once_ent n, spec_l11Draw_ent n, spec_l1Pick_ent n, spec_l11DrawText_ent n, spec_l1PickInt_ent n, spec_l11DrawAny_ent n, spec_l11DrawStack_ent n, spec_DrawStackOk_ent n, impl_in_ent n, impl_valueOf_ent n, impl_CheckDigit_ent n, impl_BoxName_ent n, impl_portOk_ent n, impl_BoxOk_ent n, impl_StackOk_ent n, spec_BoxName_ent n, spec_BoxOk_ent n, spec_StackOk_ent n, laws_at_ent n, impl_Lashes_1_ent n, slices_IndexFunc_impl_Box_impl_Box__impl_Lashes_1_ent n, slices_ContainsFunc_impl_Box_impl_Box__impl_Lashes_1_ent n, impl_Lashes_ent n, spec_Lashes_ent n, laws_FnStacks_ent n]
abbrev Phi (n i : Nat) {R : Type} (f : Nat) (ar : List (A T)) (K : Res T → Option R) : Option R := PhiE (ents n) i f ar K
theorem mixed : Try.prog.follows .mixedOrders = true := by kernel_rfl
noncomputable def laws_big_code : Code := match Try.f12.body with | some c => c | none => .skip
def laws_big_ann : Ann := fun id => none
def laws_big_Ls (n : Nat) : Nat → Option (LSpec T) := fun id => none
theorem laws_big_tie (n : Nat) (code0 : List Int) : evF (T := T) (Phi n 0) (laws_big_Ls n) laws_big_ann n Try.f12 (sg 12) [vA T 22 code0] laws_big_dec = laws_big n code0 := by kernel_rfl
theorem laws_big_lo (n : Nat) : LoopsOk (T := T) (Phi n 0) (laws_big_Ls n) laws_big_ann n laws_big_code := loopsOk_all (cs := []) (by kernel_rfl) trivial
theorem laws_big_ok (n : Nat) : EntOk Try.prog (ents n) (laws_big_ent n) := by
  intro hs ar y hg h
  replace h : laws_big_D n ar = some y := h
  unfold laws_big_D at h
  replace h := ocons_some h
  obtain ⟨a0, r0, rfl, h⟩ := h
  replace h := onil_some h
  obtain ⟨rfl, h⟩ := h
  obtain ⟨code0, qh0, h⟩ := obind_some h
  rw [argV_eq ok qh0]
  exact call_of (phiE_nat _ _) hs ok mixed Try.func12 (c := laws_big_code) (by kernel_rfl) (laws_big_lo n) (by kernel_rfl) (by kernel_rfl) (by kernel_rfl) laws_big_de ((laws_big_tie n code0).trans h)
noncomputable def spec_l1New_code : Code := match Try.f65.body with | some c => c | none => .skip
def spec_l1New_3_sv : List Sv := [.one (.arr 5), .one (.int .i64), .one (.int .i64)]
def spec_l1New_3_so : List So := []
def spec_l1New_3_emb (c : List Int) (x : Int × Int) : EVs T spec_l1New_3_sv × EOs T spec_l1New_3_so := ((c, x.1, x.2, ()), ())
def spec_l1New_3_prj (y : EVs T spec_l1New_3_sv × EOs T spec_l1New_3_so) : List Int × (Int × Int) := ((y.1.1), (y.1.2.1, y.1.2.2.1))
def spec_l1New_3_b (n : Nat) {R : Type} (K : Ex → Sm.St T → Option R) (c : List Int) (x : Int × Int) (J : (Int × Int) → Option R) : Option R :=
  spec_l1New_L3 n (fun (y1 : Int) => K (.exit 0) (stOf (T := T) [0, 3] [] [.one (.arr 5), .one (.int .i64)] [] (c, y1, ()) ())) (fun z0 z1 => J (z0, z1)) c x.1 x.2
def spec_l1New_3_sp (n : Nat) : LSpec T := mkSpec T ⟨[], [0, 3, 4], []⟩ spec_l1New_3_sv spec_l1New_3_so (List Int) (Int × Int) spec_l1New_3_emb spec_l1New_3_prj (spec_l1New_3_b n)
noncomputable def spec_l1New_3_c : Code := ((loopCodes spec_l1New_code)[0]?).getD .skip
def spec_l1New_ann : Ann := fun id => bif Nat.beq id 3000003 then some ⟨[], [0, 3], []⟩ else none
def spec_l1New_Ls (n : Nat) : Nat → Option (LSpec T) := fun id => bif Nat.beq id 3 then some (spec_l1New_3_sp n) else none
theorem spec_l1New_3_le (n : Nat) : LoopEq (T := T) (Phi n 1) (spec_l1New_Ls n) spec_l1New_ann n spec_l1New_3_c (spec_l1New_3_sp n) := ⟨mkSpec_dec (fun y => rfl), fun c x => by kernel_rfl, fun K J c x => by kernel_rfl⟩
theorem spec_l1New_tie (n : Nat) (code0 : List Int) : evF (T := T) (Phi n 1) (spec_l1New_Ls n) spec_l1New_ann n Try.f65 (sg 65) [vA T 22 code0] spec_l1New_dec = spec_l1New n code0 := by kernel_rfl
theorem spec_l1New_lo (n : Nat) : LoopsOk (T := T) (Phi n 1) (spec_l1New_Ls n) spec_l1New_ann n spec_l1New_code := loopsOk_all (cs := [spec_l1New_3_c]) (by kernel_rfl) ⟨⟨_, by kernel_rfl, spec_l1New_3_le n⟩, trivial⟩
theorem spec_l1New_ok (n : Nat) : EntOk Try.prog (ents n) (spec_l1New_ent n) := by
  intro hs ar y hg h
  replace h : spec_l1New_D n ar = some y := h
  unfold spec_l1New_D at h
  replace h := ocons_some h
  obtain ⟨a0, r0, rfl, h⟩ := h
  replace h := onil_some h
  obtain ⟨rfl, h⟩ := h
  obtain ⟨code0, qh0, h⟩ := obind_some h
  rw [argV_eq ok qh0]
  exact call_of (phiE_nat _ _) hs ok mixed Try.func65 (c := spec_l1New_code) (by kernel_rfl) (spec_l1New_lo n) (by kernel_rfl) (by kernel_rfl) (by kernel_rfl) spec_l1New_de ((spec_l1New_tie n code0).trans h)
noncomputable def spec_l1Byte_code : Code := match Try.f143.body with | some c => c | none => .skip
def spec_l1Byte_ann : Ann := fun id => none
def spec_l1Byte_Ls (n : Nat) : Nat → Option (LSpec T) := fun id => none
theorem spec_l1Byte_tie (n : Nat) (c0 : Sl1Cur) : evF (T := T) (Phi n 2) (spec_l1Byte_Ls n) spec_l1Byte_ann n Try.f143 (sg 143) [.ptr 160 c0] spec_l1Byte_dec = spec_l1Byte n c0 := by kernel_rfl
theorem spec_l1Byte_lo (n : Nat) : LoopsOk (T := T) (Phi n 2) (spec_l1Byte_Ls n) spec_l1Byte_ann n spec_l1Byte_code := loopsOk_all (cs := []) (by kernel_rfl) trivial
theorem spec_l1Byte_ok (n : Nat) : EntOk Try.prog (ents n) (spec_l1Byte_ent n) := by
  intro hs ar y hg h
  replace h : spec_l1Byte_D n ar = some y := h
  unfold spec_l1Byte_D at h
  replace h := ocons_some h
  obtain ⟨a0, r0, rfl, h⟩ := h
  replace h := onil_some h
  obtain ⟨rfl, h⟩ := h
  obtain ⟨c0, qh0, h⟩ := obind_some h
  rw [argP_eq qh0]
  exact call_of (phiE_nat _ _) hs ok mixed Try.func143 (c := spec_l1Byte_code) (by kernel_rfl) (spec_l1Byte_lo n) (by kernel_rfl) (by kernel_rfl) (by kernel_rfl) spec_l1Byte_de ((spec_l1Byte_tie n c0).trans h)
noncomputable def spec_l1Below_code : Code := match Try.f76.body with | some c => c | none => .skip
def spec_l1Below_ann : Ann := fun id => none
def spec_l1Below_Ls (n : Nat) : Nat → Option (LSpec T) := fun id => none
theorem spec_l1Below_tie (n : Nat) (c0 : Sl1Cur) (n1 : Int) : evF (T := T) (Phi n 3) (spec_l1Below_Ls n) spec_l1Below_ann n Try.f76 (sg 76) [.ptr 160 c0, vA T 3 n1] spec_l1Below_dec = spec_l1Below n c0 n1 := by kernel_rfl
theorem spec_l1Below_lo (n : Nat) : LoopsOk (T := T) (Phi n 3) (spec_l1Below_Ls n) spec_l1Below_ann n spec_l1Below_code := loopsOk_all (cs := []) (by kernel_rfl) trivial
theorem spec_l1Below_ok (n : Nat) : EntOk Try.prog (ents n) (spec_l1Below_ent n) := by
  intro hs ar y hg h
  replace h : spec_l1Below_D n ar = some y := h
  unfold spec_l1Below_D at h
  replace h := ocons_some h
  obtain ⟨a0, r0, rfl, h⟩ := h
  replace h := ocons_some h
  obtain ⟨a1, r1, rfl, h⟩ := h
  replace h := onil_some h
  obtain ⟨rfl, h⟩ := h
  obtain ⟨c0, qh0, h⟩ := obind_some h
  obtain ⟨n1, qh1, h⟩ := obind_some h
  rw [argP_eq qh0, argV_eq ok qh1]
  exact call_of (phiE_nat _ _) hs ok mixed Try.func76 (c := spec_l1Below_code) (by kernel_rfl) (spec_l1Below_lo n) (by kernel_rfl) (by kernel_rfl) (by kernel_rfl) spec_l1Below_de ((spec_l1Below_tie n c0 n1).trans h)
noncomputable def spec_l1In_code : Code := match Try.f71.body with | some c => c | none => .skip
def spec_l1In_ann : Ann := fun id => none
def spec_l1In_Ls (n : Nat) : Nat → Option (LSpec T) := fun id => none
theorem spec_l1In_tie (n : Nat) (x0 : Int) (a1 : Int) (b2 : Int) : evF (T := T) (Phi n 4) (spec_l1In_Ls n) spec_l1In_ann n Try.f71 (sg 71) [vA T 3 x0, vA T 3 a1, vA T 3 b2] spec_l1In_dec = spec_l1In n x0 a1 b2 := by kernel_rfl
theorem spec_l1In_lo (n : Nat) : LoopsOk (T := T) (Phi n 4) (spec_l1In_Ls n) spec_l1In_ann n spec_l1In_code := loopsOk_all (cs := []) (by kernel_rfl) trivial
theorem spec_l1In_ok (n : Nat) : EntOk Try.prog (ents n) (spec_l1In_ent n) := by
  intro hs ar y hg h
  replace h : spec_l1In_D n ar = some y := h
  unfold spec_l1In_D at h
  replace h := ocons_some h
  obtain ⟨a0, r0, rfl, h⟩ := h
  replace h := ocons_some h
  obtain ⟨a1, r1, rfl, h⟩ := h
  replace h := ocons_some h
  obtain ⟨a2, r2, rfl, h⟩ := h
  replace h := onil_some h
  obtain ⟨rfl, h⟩ := h
  obtain ⟨x0, qh0, h⟩ := obind_some h
  obtain ⟨a1, qh1, h⟩ := obind_some h
  obtain ⟨b2, qh2, h⟩ := obind_some h
  rw [argV_eq ok qh0, argV_eq ok qh1, argV_eq ok qh2]
  exact call_of (phiE_nat _ _) hs ok mixed Try.func71 (c := spec_l1In_code) (by kernel_rfl) (spec_l1In_lo n) (by kernel_rfl) (by kernel_rfl) (by kernel_rfl) spec_l1In_de ((spec_l1In_tie n x0 a1 b2).trans h)
noncomputable def spec_l11Letter_code : Code := match Try.f181.body with | some c => c | none => .skip
def spec_l11Letter_2_sv : List Sv := [.one (.int .i64), .one (.int .i64)]
def spec_l11Letter_2_so : List So := []
def spec_l11Letter_2_emb (c : Unit) (x : Int × Int) : EVs T spec_l11Letter_2_sv × EOs T spec_l11Letter_2_so := ((x.1, x.2, ()), ())
def spec_l11Letter_2_prj (y : EVs T spec_l11Letter_2_sv × EOs T spec_l11Letter_2_so) : Unit × (Int × Int) := ((), (y.1.1, y.1.2.1))
def spec_l11Letter_2_b (n : Nat) {R : Type} (K : Ex → Sm.St T → Option R) (c : Unit) (x : Int × Int) (J : (Int × Int) → Option R) : Option R :=
  spec_l11Letter_L2 n (fun (y0 : Int) => K (.exit 0) (stOf (T := T) [3] [] [.one (.int .i64)] [] (y0, ()) ())) (fun z0 z1 => J (z0, z1)) x.1 x.2
def spec_l11Letter_2_sp (n : Nat) : LSpec T := mkSpec T ⟨[], [0, 3], []⟩ spec_l11Letter_2_sv spec_l11Letter_2_so (Unit) (Int × Int) spec_l11Letter_2_emb spec_l11Letter_2_prj (spec_l11Letter_2_b n)
noncomputable def spec_l11Letter_2_c : Code := ((loopCodes spec_l11Letter_code)[0]?).getD .skip
def spec_l11Letter_ann : Ann := fun id => bif Nat.beq id 3000002 then some ⟨[], [3], []⟩ else none
def spec_l11Letter_Ls (n : Nat) : Nat → Option (LSpec T) := fun id => bif Nat.beq id 2 then some (spec_l11Letter_2_sp n) else none
theorem spec_l11Letter_2_le (n : Nat) : LoopEq (T := T) (Phi n 5) (spec_l11Letter_Ls n) spec_l11Letter_ann n spec_l11Letter_2_c (spec_l11Letter_2_sp n) := ⟨mkSpec_dec (fun y => rfl), fun c x => by kernel_rfl, fun K J c x => by kernel_rfl⟩
theorem spec_l11Letter_tie (n : Nat) (k0 : Int) : evF (T := T) (Phi n 5) (spec_l11Letter_Ls n) spec_l11Letter_ann n Try.f181 (sg 181) [vA T 3 k0] spec_l11Letter_dec = spec_l11Letter n k0 := by kernel_rfl
theorem spec_l11Letter_lo (n : Nat) : LoopsOk (T := T) (Phi n 5) (spec_l11Letter_Ls n) spec_l11Letter_ann n spec_l11Letter_code := loopsOk_all (cs := [spec_l11Letter_2_c]) (by kernel_rfl) ⟨⟨_, by kernel_rfl, spec_l11Letter_2_le n⟩, trivial⟩
theorem spec_l11Letter_ok (n : Nat) : EntOk Try.prog (ents n) (spec_l11Letter_ent n) := by
  intro hs ar y hg h
  replace h : spec_l11Letter_D n ar = some y := h
  unfold spec_l11Letter_D at h
  replace h := ocons_some h
  obtain ⟨a0, r0, rfl, h⟩ := h
  replace h := onil_some h
  obtain ⟨rfl, h⟩ := h
  obtain ⟨k0, qh0, h⟩ := obind_some h
  rw [argV_eq ok qh0]
  exact call_of (phiE_nat _ _) hs ok mixed Try.func181 (c := spec_l11Letter_code) (by kernel_rfl) (spec_l11Letter_lo n) (by kernel_rfl) (by kernel_rfl) (by kernel_rfl) spec_l11Letter_de ((spec_l11Letter_tie n k0).trans h)
noncomputable def spec_CheckDigit_code : Code := match Try.f170.body with | some c => c | none => .skip
def spec_CheckDigit_5_sv : List Sv := [.one (.str), .one (.int .i64), .one (.int .i64)]
def spec_CheckDigit_5_so : List So := []
def spec_CheckDigit_5_emb (c : ByteArray) (x : Int × Int) : EVs T spec_CheckDigit_5_sv × EOs T spec_CheckDigit_5_so := ((c, x.1, x.2, ()), ())
def spec_CheckDigit_5_prj (y : EVs T spec_CheckDigit_5_sv × EOs T spec_CheckDigit_5_so) : ByteArray × (Int × Int) := ((y.1.1), (y.1.2.1, y.1.2.2.1))
def spec_CheckDigit_5_b (n : Nat) {R : Type} (K : Ex → Sm.St T → Option R) (c : ByteArray) (x : Int × Int) (J : (Int × Int) → Option R) : Option R :=
  spec_CheckDigit_L5 n (fun (y0 : Int) => K (.exit 0) (stOf (T := T) [3] [] [.one (.int .i64)] [] (y0, ()) ())) (fun (y0 : Int) => K .ret (stOf (T := T) [2] [] [.one (.int .i64)] [] (y0, ()) ())) (fun z0 z1 => J (z0, z1)) c x.1 x.2
def spec_CheckDigit_5_sp (n : Nat) : LSpec T := mkSpec T ⟨[], [0, 3, 4], []⟩ spec_CheckDigit_5_sv spec_CheckDigit_5_so (ByteArray) (Int × Int) spec_CheckDigit_5_emb spec_CheckDigit_5_prj (spec_CheckDigit_5_b n)
noncomputable def spec_CheckDigit_5_c : Code := ((loopCodes spec_CheckDigit_code)[0]?).getD .skip
def spec_CheckDigit_ann : Ann := fun id => bif Nat.beq id 3000005 then some ⟨[], [3], []⟩ else bif Nat.beq id 2000005 then some ⟨[], [2], []⟩ else none
def spec_CheckDigit_Ls (n : Nat) : Nat → Option (LSpec T) := fun id => bif Nat.beq id 5 then some (spec_CheckDigit_5_sp n) else none
theorem spec_CheckDigit_5_le (n : Nat) : LoopEq (T := T) (Phi n 6) (spec_CheckDigit_Ls n) spec_CheckDigit_ann n spec_CheckDigit_5_c (spec_CheckDigit_5_sp n) := ⟨mkSpec_dec (fun y => rfl), fun c x => by kernel_rfl, fun K J c x => by kernel_rfl⟩
theorem spec_CheckDigit_tie (n : Nat) (name0 : ByteArray) : evF (T := T) (Phi n 6) (spec_CheckDigit_Ls n) spec_CheckDigit_ann n Try.f170 (sg 170) [vA T 9 name0] spec_CheckDigit_dec = spec_CheckDigit n name0 := by kernel_rfl
theorem spec_CheckDigit_lo (n : Nat) : LoopsOk (T := T) (Phi n 6) (spec_CheckDigit_Ls n) spec_CheckDigit_ann n spec_CheckDigit_code := loopsOk_all (cs := [spec_CheckDigit_5_c]) (by kernel_rfl) ⟨⟨_, by kernel_rfl, spec_CheckDigit_5_le n⟩, trivial⟩
theorem spec_CheckDigit_ok (n : Nat) : EntOk Try.prog (ents n) (spec_CheckDigit_ent n) := by
  intro hs ar y hg h
  replace h : spec_CheckDigit_D n ar = some y := h
  unfold spec_CheckDigit_D at h
  replace h := ocons_some h
  obtain ⟨a0, r0, rfl, h⟩ := h
  replace h := onil_some h
  obtain ⟨rfl, h⟩ := h
  obtain ⟨name0, qh0, h⟩ := obind_some h
  rw [argV_eq ok qh0]
  exact call_of (phiE_nat _ _) hs ok mixed Try.func170 (c := spec_CheckDigit_code) (by kernel_rfl) (spec_CheckDigit_lo n) (by kernel_rfl) (by kernel_rfl) (by kernel_rfl) spec_CheckDigit_de ((spec_CheckDigit_tie n name0).trans h)
noncomputable def spec_l11DrawName_code : Code := match Try.f156.body with | some c => c | none => .skip
def spec_l11DrawName_3_sv : List Sv := [.one (.ptr 4503599627370496 0 0), .one (.own 3000000 5 false), .one (.int .i64)]
def spec_l11DrawName_3_so : List So := [.var [.arr 5, .int .i64, .int .i64], .arr 5 false]
def spec_l11DrawName_3_emb (c : Unit) (x : Int × Sl1Cur × List Int) : EVs T spec_l11DrawName_3_sv × EOs T spec_l11DrawName_3_so := (((), (), x.1, ()), ((x.2.1.b, x.2.1.i, x.2.1.h, ()), x.2.2, ()))
def spec_l11DrawName_3_prj (y : EVs T spec_l11DrawName_3_sv × EOs T spec_l11DrawName_3_so) : Unit × (Int × Sl1Cur × List Int) := ((), (y.1.2.2.1, ((⟨y.2.1.1, y.2.1.2.1, y.2.1.2.2.1⟩ : Sl1Cur) : Sl1Cur), y.2.2.1))
def spec_l11DrawName_3_b (n : Nat) {R : Type} (K : Ex → Sm.St T → Option R) (c : Unit) (x : Int × Sl1Cur × List Int) (J : (Int × Sl1Cur × List Int) → Option R) : Option R :=
  spec_l11DrawName_L3 n (fun (y0 : Sl1Cur) (y1 : List Int) => K (.exit 0) (stOf (T := T) [0, 3] [4503599627370496, 3000000] [.one (.ptr 4503599627370496 0 0), .one (.own 3000000 5 false)] [.var [.arr 5, .int .i64, .int .i64], .arr 5 false] ((), (), ()) ((y0.b, y0.i, y0.h, ()), y1, ()))) (fun z0 z1 z2 => J (z0, z1, z2)) x.1 x.2.1 x.2.2
def spec_l11DrawName_3_sp (n : Nat) : LSpec T := mkSpec T ⟨[((.reg 3), 3000000, 5)], [0, 3, 4], [4503599627370496, 3000000]⟩ spec_l11DrawName_3_sv spec_l11DrawName_3_so (Unit) (Int × Sl1Cur × List Int) spec_l11DrawName_3_emb spec_l11DrawName_3_prj (spec_l11DrawName_3_b n)
noncomputable def spec_l11DrawName_3_c : Code := ((loopCodes spec_l11DrawName_code)[0]?).getD .skip
def spec_l11DrawName_7_sv : List Sv := [.one (.ptr 4503599627370496 0 0), .one (.own 3000000 5 false), .one (.int .i64)]
def spec_l11DrawName_7_so : List So := [.var [.arr 5, .int .i64, .int .i64], .arr 5 false]
def spec_l11DrawName_7_emb (c : Unit) (x : Int × Sl1Cur × List Int) : EVs T spec_l11DrawName_7_sv × EOs T spec_l11DrawName_7_so := (((), (), x.1, ()), ((x.2.1.b, x.2.1.i, x.2.1.h, ()), x.2.2, ()))
def spec_l11DrawName_7_prj (y : EVs T spec_l11DrawName_7_sv × EOs T spec_l11DrawName_7_so) : Unit × (Int × Sl1Cur × List Int) := ((), (y.1.2.2.1, ((⟨y.2.1.1, y.2.1.2.1, y.2.1.2.2.1⟩ : Sl1Cur) : Sl1Cur), y.2.2.1))
def spec_l11DrawName_7_b (n : Nat) {R : Type} (K : Ex → Sm.St T → Option R) (c : Unit) (x : Int × Sl1Cur × List Int) (J : (Int × Sl1Cur × List Int) → Option R) : Option R :=
  spec_l11DrawName_L7 n (fun (y0 : List Int) (y1 : Sl1Cur) => K (.exit 2) (stOf (T := T) [3] [3000000, 4503599627370496] [.one (.own 3000000 5 false)] [.arr 5 false, .var [.arr 5, .int .i64, .int .i64]] ((), ()) (y0, (y1.b, y1.i, y1.h, ()), ()))) (fun z0 z1 z2 => J (z0, z1, z2)) x.1 x.2.1 x.2.2
def spec_l11DrawName_7_sp (n : Nat) : LSpec T := mkSpec T ⟨[((.reg 3), 3000000, 5)], [0, 3, 5], [4503599627370496, 3000000]⟩ spec_l11DrawName_7_sv spec_l11DrawName_7_so (Unit) (Int × Sl1Cur × List Int) spec_l11DrawName_7_emb spec_l11DrawName_7_prj (spec_l11DrawName_7_b n)
noncomputable def spec_l11DrawName_7_c : Code := ((loopCodes spec_l11DrawName_code)[1]?).getD .skip
def spec_l11DrawName_ann : Ann := fun id => bif Nat.beq id 3000003 then some ⟨[((.reg 3), 3000000, 5)], [0, 3], [4503599627370496, 3000000]⟩ else bif Nat.beq id 5000007 then some ⟨[((.reg 3), 3000000, 5)], [3], [3000000, 4503599627370496]⟩ else none
def spec_l11DrawName_Ls (n : Nat) : Nat → Option (LSpec T) := fun id => bif Nat.beq id 3 then some (spec_l11DrawName_3_sp n) else bif Nat.beq id 7 then some (spec_l11DrawName_7_sp n) else none
theorem spec_l11DrawName_3_le (n : Nat) : LoopEq (T := T) (Phi n 7) (spec_l11DrawName_Ls n) spec_l11DrawName_ann n spec_l11DrawName_3_c (spec_l11DrawName_3_sp n) := ⟨mkSpec_dec (fun y => rfl), fun c x => by kernel_rfl, fun K J c x => by kernel_rfl⟩
theorem spec_l11DrawName_7_le (n : Nat) : LoopEq (T := T) (Phi n 7) (spec_l11DrawName_Ls n) spec_l11DrawName_ann n spec_l11DrawName_7_c (spec_l11DrawName_7_sp n) := ⟨mkSpec_dec (fun y => rfl), fun c x => by kernel_rfl, fun K J c x => by kernel_rfl⟩
theorem spec_l11DrawName_tie (n : Nat) (c0 : Sl1Cur) : evF (T := T) (Phi n 7) (spec_l11DrawName_Ls n) spec_l11DrawName_ann n Try.f156 (sg 156) [.ptr 160 c0] spec_l11DrawName_dec = spec_l11DrawName n c0 := by kernel_rfl
theorem spec_l11DrawName_lo (n : Nat) : LoopsOk (T := T) (Phi n 7) (spec_l11DrawName_Ls n) spec_l11DrawName_ann n spec_l11DrawName_code := loopsOk_all (cs := [spec_l11DrawName_3_c, spec_l11DrawName_7_c]) (by kernel_rfl) ⟨⟨_, by kernel_rfl, spec_l11DrawName_3_le n⟩, ⟨_, by kernel_rfl, spec_l11DrawName_7_le n⟩, trivial⟩
theorem spec_l11DrawName_ok (n : Nat) : EntOk Try.prog (ents n) (spec_l11DrawName_ent n) := by
  intro hs ar y hg h
  replace h : spec_l11DrawName_D n ar = some y := h
  unfold spec_l11DrawName_D at h
  replace h := ocons_some h
  obtain ⟨a0, r0, rfl, h⟩ := h
  replace h := onil_some h
  obtain ⟨rfl, h⟩ := h
  obtain ⟨c0, qh0, h⟩ := obind_some h
  rw [argP_eq qh0]
  exact call_of (phiE_nat _ _) hs ok mixed Try.func156 (c := spec_l11DrawName_code) (by kernel_rfl) (spec_l11DrawName_lo n) (by kernel_rfl) (by kernel_rfl) (by kernel_rfl) spec_l11DrawName_de ((spec_l11DrawName_tie n c0).trans h)
noncomputable def spec_l1Once_code : Code := match Try.f78.body with | some c => c | none => .skip
def spec_l1Once_ann : Ann := fun id => none
def spec_l1Once_Ls (n : Nat) : Nat → Option (LSpec T) := fun id => none
theorem spec_l1Once_tie (n : Nat) (c0 : Sl1Cur) (n1 : Int) : evF (T := T) (Phi n 8) (spec_l1Once_Ls n) spec_l1Once_ann n Try.f78 (sg 78) [.ptr 160 c0, vA T 3 n1] spec_l1Once_dec = spec_l1Once n c0 n1 := by kernel_rfl
theorem spec_l1Once_lo (n : Nat) : LoopsOk (T := T) (Phi n 8) (spec_l1Once_Ls n) spec_l1Once_ann n spec_l1Once_code := loopsOk_all (cs := []) (by kernel_rfl) trivial
theorem spec_l1Once_ok (n : Nat) : EntOk Try.prog (ents n) (spec_l1Once_ent n) := by
  intro hs ar y hg h
  replace h : spec_l1Once_D n ar = some y := h
  unfold spec_l1Once_D at h
  replace h := ocons_some h
  obtain ⟨a0, r0, rfl, h⟩ := h
  replace h := ocons_some h
  obtain ⟨a1, r1, rfl, h⟩ := h
  replace h := onil_some h
  obtain ⟨rfl, h⟩ := h
  obtain ⟨c0, qh0, h⟩ := obind_some h
  obtain ⟨n1, qh1, h⟩ := obind_some h
  rw [argP_eq qh0, argV_eq ok qh1]
  exact call_of (phiE_nat _ _) hs ok mixed Try.func78 (c := spec_l1Once_code) (by kernel_rfl) (spec_l1Once_lo n) (by kernel_rfl) (by kernel_rfl) (by kernel_rfl) spec_l1Once_de ((spec_l1Once_tie n c0 n1).trans h)
noncomputable def spec_l11Draw_code : Code := match Try.f100.body with | some c => c | none => .skip
def spec_l11Draw_ann : Ann := fun id => none
def spec_l11Draw_Ls (n : Nat) : Nat → Option (LSpec T) := fun id => none
theorem spec_l11Draw_tie (n : Nat) (c0 : Sl1Cur) : evF (T := T) (Phi n 9) (spec_l11Draw_Ls n) spec_l11Draw_ann n Try.f100 (sg 100) [.ptr 160 c0] spec_l11Draw_dec = spec_l11Draw n c0 := by kernel_rfl
theorem spec_l11Draw_lo (n : Nat) : LoopsOk (T := T) (Phi n 9) (spec_l11Draw_Ls n) spec_l11Draw_ann n spec_l11Draw_code := loopsOk_all (cs := []) (by kernel_rfl) trivial
theorem spec_l11Draw_ok (n : Nat) : EntOk Try.prog (ents n) (spec_l11Draw_ent n) := by
  intro hs ar y hg h
  replace h : spec_l11Draw_D n ar = some y := h
  unfold spec_l11Draw_D at h
  replace h := ocons_some h
  obtain ⟨a0, r0, rfl, h⟩ := h
  replace h := onil_some h
  obtain ⟨rfl, h⟩ := h
  obtain ⟨c0, qh0, h⟩ := obind_some h
  rw [argP_eq qh0]
  exact call_of (phiE_nat _ _) hs ok mixed Try.func100 (c := spec_l11Draw_code) (by kernel_rfl) (spec_l11Draw_lo n) (by kernel_rfl) (by kernel_rfl) (by kernel_rfl) spec_l11Draw_de ((spec_l11Draw_tie n c0).trans h)
noncomputable def spec_l1Pick_code : Code := match Try.f178.body with | some c => c | none => .skip
def spec_l1Pick_ann : Ann := fun id => none
def spec_l1Pick_Ls (n : Nat) : Nat → Option (LSpec T) := fun id => none
theorem spec_l1Pick_tie (n : Nat) (c0 : Sl1Cur) (list1 : List ByteArray) : evF (T := T) (Phi n 10) (spec_l1Pick_Ls n) spec_l1Pick_ann n Try.f178 (sg 178) [.ptr 160 c0, vA T 186 list1] spec_l1Pick_dec = spec_l1Pick n c0 list1 := by kernel_rfl
theorem spec_l1Pick_lo (n : Nat) : LoopsOk (T := T) (Phi n 10) (spec_l1Pick_Ls n) spec_l1Pick_ann n spec_l1Pick_code := loopsOk_all (cs := []) (by kernel_rfl) trivial
theorem spec_l1Pick_ok (n : Nat) : EntOk Try.prog (ents n) (spec_l1Pick_ent n) := by
  intro hs ar y hg h
  replace h : spec_l1Pick_D n ar = some y := h
  unfold spec_l1Pick_D at h
  replace h := ocons_some h
  obtain ⟨a0, r0, rfl, h⟩ := h
  replace h := ocons_some h
  obtain ⟨a1, r1, rfl, h⟩ := h
  replace h := onil_some h
  obtain ⟨rfl, h⟩ := h
  obtain ⟨c0, qh0, h⟩ := obind_some h
  obtain ⟨list1, qh1, h⟩ := obind_some h
  rw [argP_eq qh0, argV_eq ok qh1]
  exact call_of (phiE_nat _ _) hs ok mixed Try.func178 (c := spec_l1Pick_code) (by kernel_rfl) (spec_l1Pick_lo n) (by kernel_rfl) (by kernel_rfl) (by kernel_rfl) spec_l1Pick_de ((spec_l1Pick_tie n c0 list1).trans h)
noncomputable def spec_l11DrawText_code : Code := match Try.f157.body with | some c => c | none => .skip
def spec_l11DrawText_ann : Ann := fun id => none
def spec_l11DrawText_Ls (n : Nat) : Nat → Option (LSpec T) := fun id => none
theorem spec_l11DrawText_tie (n : Nat) (c0 : Sl1Cur) : evF (T := T) (Phi n 11) (spec_l11DrawText_Ls n) spec_l11DrawText_ann n Try.f157 (sg 157) [.ptr 160 c0] spec_l11DrawText_dec = spec_l11DrawText n c0 := by kernel_rfl
theorem spec_l11DrawText_lo (n : Nat) : LoopsOk (T := T) (Phi n 11) (spec_l11DrawText_Ls n) spec_l11DrawText_ann n spec_l11DrawText_code := loopsOk_all (cs := []) (by kernel_rfl) trivial
theorem spec_l11DrawText_ok (n : Nat) : EntOk Try.prog (ents n) (spec_l11DrawText_ent n) := by
  intro hs ar y hg h
  replace h : spec_l11DrawText_D n ar = some y := h
  unfold spec_l11DrawText_D at h
  replace h := ocons_some h
  obtain ⟨a0, r0, rfl, h⟩ := h
  replace h := onil_some h
  obtain ⟨rfl, h⟩ := h
  obtain ⟨c0, qh0, h⟩ := obind_some h
  rw [argP_eq qh0]
  exact call_of (phiE_nat _ _) hs ok mixed Try.func157 (c := spec_l11DrawText_code) (by kernel_rfl) (spec_l11DrawText_lo n) (by kernel_rfl) (by kernel_rfl) (by kernel_rfl) spec_l11DrawText_de ((spec_l11DrawText_tie n c0).trans h)
noncomputable def spec_l1PickInt_code : Code := match Try.f67.body with | some c => c | none => .skip
def spec_l1PickInt_ann : Ann := fun id => none
def spec_l1PickInt_Ls (n : Nat) : Nat → Option (LSpec T) := fun id => none
theorem spec_l1PickInt_tie (n : Nat) (c0 : Sl1Cur) (list1 : List Int) : evF (T := T) (Phi n 12) (spec_l1PickInt_Ls n) spec_l1PickInt_ann n Try.f67 (sg 67) [.ptr 160 c0, vA T 41 list1] spec_l1PickInt_dec = spec_l1PickInt n c0 list1 := by kernel_rfl
theorem spec_l1PickInt_lo (n : Nat) : LoopsOk (T := T) (Phi n 12) (spec_l1PickInt_Ls n) spec_l1PickInt_ann n spec_l1PickInt_code := loopsOk_all (cs := []) (by kernel_rfl) trivial
theorem spec_l1PickInt_ok (n : Nat) : EntOk Try.prog (ents n) (spec_l1PickInt_ent n) := by
  intro hs ar y hg h
  replace h : spec_l1PickInt_D n ar = some y := h
  unfold spec_l1PickInt_D at h
  replace h := ocons_some h
  obtain ⟨a0, r0, rfl, h⟩ := h
  replace h := ocons_some h
  obtain ⟨a1, r1, rfl, h⟩ := h
  replace h := onil_some h
  obtain ⟨rfl, h⟩ := h
  obtain ⟨c0, qh0, h⟩ := obind_some h
  obtain ⟨list1, qh1, h⟩ := obind_some h
  rw [argP_eq qh0, argV_eq ok qh1]
  exact call_of (phiE_nat _ _) hs ok mixed Try.func67 (c := spec_l1PickInt_code) (by kernel_rfl) (spec_l1PickInt_lo n) (by kernel_rfl) (by kernel_rfl) (by kernel_rfl) spec_l1PickInt_de ((spec_l1PickInt_tie n c0 list1).trans h)
noncomputable def spec_l11DrawAny_code : Code := match Try.f101.body with | some c => c | none => .skip
def spec_l11DrawAny_ann : Ann := fun id => none
def spec_l11DrawAny_Ls (n : Nat) : Nat → Option (LSpec T) := fun id => none
theorem spec_l11DrawAny_tie (n : Nat) (c0 : Sl1Cur) : evF (T := T) (Phi n 13) (spec_l11DrawAny_Ls n) spec_l11DrawAny_ann n Try.f101 (sg 101) [.ptr 160 c0] spec_l11DrawAny_dec = spec_l11DrawAny n c0 := by kernel_rfl
theorem spec_l11DrawAny_lo (n : Nat) : LoopsOk (T := T) (Phi n 13) (spec_l11DrawAny_Ls n) spec_l11DrawAny_ann n spec_l11DrawAny_code := loopsOk_all (cs := []) (by kernel_rfl) trivial
theorem spec_l11DrawAny_ok (n : Nat) : EntOk Try.prog (ents n) (spec_l11DrawAny_ent n) := by
  intro hs ar y hg h
  replace h : spec_l11DrawAny_D n ar = some y := h
  unfold spec_l11DrawAny_D at h
  replace h := ocons_some h
  obtain ⟨a0, r0, rfl, h⟩ := h
  replace h := onil_some h
  obtain ⟨rfl, h⟩ := h
  obtain ⟨c0, qh0, h⟩ := obind_some h
  rw [argP_eq qh0]
  exact call_of (phiE_nat _ _) hs ok mixed Try.func101 (c := spec_l11DrawAny_code) (by kernel_rfl) (spec_l11DrawAny_lo n) (by kernel_rfl) (by kernel_rfl) (by kernel_rfl) spec_l11DrawAny_de ((spec_l11DrawAny_tie n c0).trans h)
noncomputable def spec_l11DrawStack_code : Code := match Try.f66.body with | some c => c | none => .skip
def spec_l11DrawStack_4_sv : List Sv := [.one (.ptr 4503599627370496 0 0), .one (.own 3000000 32 false), .one (.int .i64), .one (.int .i64)]
def spec_l11DrawStack_4_so : List So := [.var [.arr 5, .int .i64, .int .i64], .arr 32 false]
def spec_l11DrawStack_4_emb (c : Unit) (x : Int × Int × Sl1Cur × List SBox) : EVs T spec_l11DrawStack_4_sv × EOs T spec_l11DrawStack_4_so := (((), (), x.1, x.2.1, ()), ((x.2.2.1.b, x.2.2.1.i, x.2.2.1.h, ()), x.2.2.2, ()))
def spec_l11DrawStack_4_prj (y : EVs T spec_l11DrawStack_4_sv × EOs T spec_l11DrawStack_4_so) : Unit × (Int × Int × Sl1Cur × List SBox) := ((), (y.1.2.2.1, y.1.2.2.2.1, ((⟨y.2.1.1, y.2.1.2.1, y.2.1.2.2.1⟩ : Sl1Cur) : Sl1Cur), y.2.2.1))
def spec_l11DrawStack_4_b (n : Nat) {R : Type} (K : Ex → Sm.St T → Option R) (c : Unit) (x : Int × Int × Sl1Cur × List SBox) (J : (Int × Int × Sl1Cur × List SBox) → Option R) : Option R :=
  spec_l11DrawStack_L4 n (fun (y0 : Sl1Cur) (y1 : List SBox) => K (.exit 0) (stOf (T := T) [0, 3] [4503599627370496, 3000000] [.one (.ptr 4503599627370496 0 0), .one (.own 3000000 32 false)] [.var [.arr 5, .int .i64, .int .i64], .arr 32 false] ((), (), ()) ((y0.b, y0.i, y0.h, ()), y1, ()))) (fun z0 z1 z2 z3 => J (z0, z1, z2, z3)) x.1 x.2.1 x.2.2.1 x.2.2.2
def spec_l11DrawStack_4_sp (n : Nat) : LSpec T := mkSpec T ⟨[((.reg 3), 3000000, 32)], [0, 3, 4, 5], [4503599627370496, 3000000]⟩ spec_l11DrawStack_4_sv spec_l11DrawStack_4_so (Unit) (Int × Int × Sl1Cur × List SBox) spec_l11DrawStack_4_emb spec_l11DrawStack_4_prj (spec_l11DrawStack_4_b n)
noncomputable def spec_l11DrawStack_4_c : Code := ((loopCodes spec_l11DrawStack_code)[0]?).getD .skip
def spec_l11DrawStack_17_sv : List Sv := [.one (.ptr 4503599627370496 0 0), .one (.own 3000000 32 false)]
def spec_l11DrawStack_17_so : List So := [.var [.arr 5, .int .i64, .int .i64], .arr 32 false]
def spec_l11DrawStack_17_emb (c : Unit) (x : Sl1Cur × List SBox) : EVs T spec_l11DrawStack_17_sv × EOs T spec_l11DrawStack_17_so := (((), (), ()), ((x.1.b, x.1.i, x.1.h, ()), x.2, ()))
def spec_l11DrawStack_17_prj (y : EVs T spec_l11DrawStack_17_sv × EOs T spec_l11DrawStack_17_so) : Unit × (Sl1Cur × List SBox) := ((), (((⟨y.2.1.1, y.2.1.2.1, y.2.1.2.2.1⟩ : Sl1Cur) : Sl1Cur), y.2.2.1))
def spec_l11DrawStack_17_b (n : Nat) {R : Type} (K : Ex → Sm.St T → Option R) (c : Unit) (x : Sl1Cur × List SBox) (J : (Sl1Cur × List SBox) → Option R) : Option R :=
  spec_l11DrawStack_L17 n (fun (y0 : List SBox) (y1 : Sl1Cur) => K (.exit 3) (stOf (T := T) [3] [3000000, 4503599627370496] [.one (.own 3000000 32 false)] [.arr 32 false, .var [.arr 5, .int .i64, .int .i64]] ((), ()) (y0, (y1.b, y1.i, y1.h, ()), ()))) (fun z0 z1 => J (z0, z1)) x.1 x.2
def spec_l11DrawStack_17_sp (n : Nat) : LSpec T := mkSpec T ⟨[((.reg 3), 3000000, 32)], [0, 3], [4503599627370496, 3000000]⟩ spec_l11DrawStack_17_sv spec_l11DrawStack_17_so (Unit) (Sl1Cur × List SBox) spec_l11DrawStack_17_emb spec_l11DrawStack_17_prj (spec_l11DrawStack_17_b n)
noncomputable def spec_l11DrawStack_17_c : Code := ((loopCodes spec_l11DrawStack_code)[1]?).getD .skip
def spec_l11DrawStack_ann : Ann := fun id => bif Nat.beq id 3000004 then some ⟨[((.reg 3), 3000000, 32)], [0, 3], [4503599627370496, 3000000]⟩ else bif Nat.beq id 6000017 then some ⟨[((.reg 3), 3000000, 32)], [3], [3000000, 4503599627370496]⟩ else none
def spec_l11DrawStack_Ls (n : Nat) : Nat → Option (LSpec T) := fun id => bif Nat.beq id 4 then some (spec_l11DrawStack_4_sp n) else bif Nat.beq id 17 then some (spec_l11DrawStack_17_sp n) else none
theorem spec_l11DrawStack_4_le (n : Nat) : LoopEq (T := T) (Phi n 14) (spec_l11DrawStack_Ls n) spec_l11DrawStack_ann n spec_l11DrawStack_4_c (spec_l11DrawStack_4_sp n) := ⟨mkSpec_dec (fun y => rfl), fun c x => by kernel_rfl, fun K J c x => by kernel_rfl⟩
theorem spec_l11DrawStack_17_le (n : Nat) : LoopEq (T := T) (Phi n 14) (spec_l11DrawStack_Ls n) spec_l11DrawStack_ann n spec_l11DrawStack_17_c (spec_l11DrawStack_17_sp n) := ⟨mkSpec_dec (fun y => rfl), fun c x => by kernel_rfl, fun K J c x => by kernel_rfl⟩
theorem spec_l11DrawStack_tie (n : Nat) (c0 : Sl1Cur) : evF (T := T) (Phi n 14) (spec_l11DrawStack_Ls n) spec_l11DrawStack_ann n Try.f66 (sg 66) [.ptr 160 c0] spec_l11DrawStack_dec = spec_l11DrawStack n c0 := by kernel_rfl
theorem spec_l11DrawStack_lo (n : Nat) : LoopsOk (T := T) (Phi n 14) (spec_l11DrawStack_Ls n) spec_l11DrawStack_ann n spec_l11DrawStack_code := loopsOk_all (cs := [spec_l11DrawStack_4_c, spec_l11DrawStack_17_c]) (by kernel_rfl) ⟨⟨_, by kernel_rfl, spec_l11DrawStack_4_le n⟩, ⟨_, by kernel_rfl, spec_l11DrawStack_17_le n⟩, trivial⟩
theorem spec_l11DrawStack_ok (n : Nat) : EntOk Try.prog (ents n) (spec_l11DrawStack_ent n) := by
  intro hs ar y hg h
  replace h : spec_l11DrawStack_D n ar = some y := h
  unfold spec_l11DrawStack_D at h
  replace h := ocons_some h
  obtain ⟨a0, r0, rfl, h⟩ := h
  replace h := onil_some h
  obtain ⟨rfl, h⟩ := h
  obtain ⟨c0, qh0, h⟩ := obind_some h
  rw [argP_eq qh0]
  exact call_of (phiE_nat _ _) hs ok mixed Try.func66 (c := spec_l11DrawStack_code) (by kernel_rfl) (spec_l11DrawStack_lo n) (by kernel_rfl) (by kernel_rfl) (by kernel_rfl) spec_l11DrawStack_de ((spec_l11DrawStack_tie n c0).trans h)
noncomputable def spec_DrawStackOk_code : Code := match Try.f13.body with | some c => c | none => .skip
def spec_DrawStackOk_ann : Ann := fun id => none
def spec_DrawStackOk_Ls (n : Nat) : Nat → Option (LSpec T) := fun id => none
theorem spec_DrawStackOk_tie (n : Nat) (code0 : List Int) : evF (T := T) (Phi n 15) (spec_DrawStackOk_Ls n) spec_DrawStackOk_ann n Try.f13 (sg 13) [vA T 22 code0] spec_DrawStackOk_dec = spec_DrawStackOk n code0 := by kernel_rfl
theorem spec_DrawStackOk_lo (n : Nat) : LoopsOk (T := T) (Phi n 15) (spec_DrawStackOk_Ls n) spec_DrawStackOk_ann n spec_DrawStackOk_code := loopsOk_all (cs := []) (by kernel_rfl) trivial
theorem spec_DrawStackOk_ok (n : Nat) : EntOk Try.prog (ents n) (spec_DrawStackOk_ent n) := by
  intro hs ar y hg h
  replace h : spec_DrawStackOk_D n ar = some y := h
  unfold spec_DrawStackOk_D at h
  replace h := ocons_some h
  obtain ⟨a0, r0, rfl, h⟩ := h
  replace h := onil_some h
  obtain ⟨rfl, h⟩ := h
  obtain ⟨code0, qh0, h⟩ := obind_some h
  rw [argV_eq ok qh0]
  exact call_of (phiE_nat _ _) hs ok mixed Try.func13 (c := spec_DrawStackOk_code) (by kernel_rfl) (spec_DrawStackOk_lo n) (by kernel_rfl) (by kernel_rfl) (by kernel_rfl) spec_DrawStackOk_de ((spec_DrawStackOk_tie n code0).trans h)
noncomputable def impl_in_code : Code := match Try.f68.body with | some c => c | none => .skip
def impl_in_ann : Ann := fun id => none
def impl_in_Ls (n : Nat) : Nat → Option (LSpec T) := fun id => none
theorem impl_in_tie (n : Nat) (n0 : Int) (least1 : Int) (most2 : Int) : evF (T := T) (Phi n 16) (impl_in_Ls n) impl_in_ann n Try.f68 (sg 68) [vA T 3 n0, vA T 3 least1, vA T 3 most2] impl_in_dec = impl_in n n0 least1 most2 := by kernel_rfl
theorem impl_in_lo (n : Nat) : LoopsOk (T := T) (Phi n 16) (impl_in_Ls n) impl_in_ann n impl_in_code := loopsOk_all (cs := []) (by kernel_rfl) trivial
theorem impl_in_ok (n : Nat) : EntOk Try.prog (ents n) (impl_in_ent n) := by
  intro hs ar y hg h
  replace h : impl_in_D n ar = some y := h
  unfold impl_in_D at h
  replace h := ocons_some h
  obtain ⟨a0, r0, rfl, h⟩ := h
  replace h := ocons_some h
  obtain ⟨a1, r1, rfl, h⟩ := h
  replace h := ocons_some h
  obtain ⟨a2, r2, rfl, h⟩ := h
  replace h := onil_some h
  obtain ⟨rfl, h⟩ := h
  obtain ⟨n0, qh0, h⟩ := obind_some h
  obtain ⟨least1, qh1, h⟩ := obind_some h
  obtain ⟨most2, qh2, h⟩ := obind_some h
  rw [argV_eq ok qh0, argV_eq ok qh1, argV_eq ok qh2]
  exact call_of (phiE_nat _ _) hs ok mixed Try.func68 (c := impl_in_code) (by kernel_rfl) (impl_in_lo n) (by kernel_rfl) (by kernel_rfl) (by kernel_rfl) impl_in_de ((impl_in_tie n n0 least1 most2).trans h)
noncomputable def impl_valueOf_code : Code := match Try.f180.body with | some c => c | none => .skip
def impl_valueOf_3_sv : List Sv := [.one (.int .u8), .one (.int .i64), .one (.int .u8)]
def impl_valueOf_3_so : List So := []
def impl_valueOf_3_emb (c : Int) (x : Int × Int) : EVs T impl_valueOf_3_sv × EOs T impl_valueOf_3_so := ((c, x.1, x.2, ()), ())
def impl_valueOf_3_prj (y : EVs T impl_valueOf_3_sv × EOs T impl_valueOf_3_so) : Int × (Int × Int) := ((y.1.1), (y.1.2.1, y.1.2.2.1))
def impl_valueOf_3_b (n : Nat) {R : Type} (K : Ex → Sm.St T → Option R) (c : Int) (x : Int × Int) (J : (Int × Int) → Option R) : Option R :=
  impl_valueOf_L3 n (fun (y0 : Int) => K (.exit 0) (stOf (T := T) [3] [] [.one (.int .i64)] [] (y0, ()) ())) (fun z0 z1 => J (z0, z1)) c x.1 x.2
def impl_valueOf_3_sp (n : Nat) : LSpec T := mkSpec T ⟨[], [0, 3, 4], []⟩ impl_valueOf_3_sv impl_valueOf_3_so (Int) (Int × Int) impl_valueOf_3_emb impl_valueOf_3_prj (impl_valueOf_3_b n)
noncomputable def impl_valueOf_3_c : Code := ((loopCodes impl_valueOf_code)[0]?).getD .skip
def impl_valueOf_ann : Ann := fun id => bif Nat.beq id 3000003 then some ⟨[], [3], []⟩ else none
def impl_valueOf_Ls (n : Nat) : Nat → Option (LSpec T) := fun id => bif Nat.beq id 3 then some (impl_valueOf_3_sp n) else none
theorem impl_valueOf_3_le (n : Nat) : LoopEq (T := T) (Phi n 17) (impl_valueOf_Ls n) impl_valueOf_ann n impl_valueOf_3_c (impl_valueOf_3_sp n) := ⟨mkSpec_dec (fun y => rfl), fun c x => by kernel_rfl, fun K J c x => by kernel_rfl⟩
theorem impl_valueOf_tie (n : Nat) (c0 : Int) : evF (T := T) (Phi n 17) (impl_valueOf_Ls n) impl_valueOf_ann n Try.f180 (sg 180) [vA T 5 c0] impl_valueOf_dec = impl_valueOf n c0 := by kernel_rfl
theorem impl_valueOf_lo (n : Nat) : LoopsOk (T := T) (Phi n 17) (impl_valueOf_Ls n) impl_valueOf_ann n impl_valueOf_code := loopsOk_all (cs := [impl_valueOf_3_c]) (by kernel_rfl) ⟨⟨_, by kernel_rfl, impl_valueOf_3_le n⟩, trivial⟩
theorem impl_valueOf_ok (n : Nat) : EntOk Try.prog (ents n) (impl_valueOf_ent n) := by
  intro hs ar y hg h
  replace h : impl_valueOf_D n ar = some y := h
  unfold impl_valueOf_D at h
  replace h := ocons_some h
  obtain ⟨a0, r0, rfl, h⟩ := h
  replace h := onil_some h
  obtain ⟨rfl, h⟩ := h
  obtain ⟨c0, qh0, h⟩ := obind_some h
  rw [argV_eq ok qh0]
  exact call_of (phiE_nat _ _) hs ok mixed Try.func180 (c := impl_valueOf_code) (by kernel_rfl) (impl_valueOf_lo n) (by kernel_rfl) (by kernel_rfl) (by kernel_rfl) impl_valueOf_de ((impl_valueOf_tie n c0).trans h)
noncomputable def impl_CheckDigit_code : Code := match Try.f169.body with | some c => c | none => .skip
def impl_CheckDigit_5_sv : List Sv := [.one (.str), .one (.int .i64), .one (.int .i64)]
def impl_CheckDigit_5_so : List So := []
def impl_CheckDigit_5_emb (c : ByteArray) (x : Int × Int) : EVs T impl_CheckDigit_5_sv × EOs T impl_CheckDigit_5_so := ((c, x.1, x.2, ()), ())
def impl_CheckDigit_5_prj (y : EVs T impl_CheckDigit_5_sv × EOs T impl_CheckDigit_5_so) : ByteArray × (Int × Int) := ((y.1.1), (y.1.2.1, y.1.2.2.1))
def impl_CheckDigit_5_b (n : Nat) {R : Type} (K : Ex → Sm.St T → Option R) (c : ByteArray) (x : Int × Int) (J : (Int × Int) → Option R) : Option R :=
  impl_CheckDigit_L5 n (fun (y0 : Int) => K (.exit 0) (stOf (T := T) [3] [] [.one (.int .i64)] [] (y0, ()) ())) (fun (y0 : Int) => K .ret (stOf (T := T) [2] [] [.one (.int .i64)] [] (y0, ()) ())) (fun z0 z1 => J (z0, z1)) c x.1 x.2
def impl_CheckDigit_5_sp (n : Nat) : LSpec T := mkSpec T ⟨[], [0, 3, 10], []⟩ impl_CheckDigit_5_sv impl_CheckDigit_5_so (ByteArray) (Int × Int) impl_CheckDigit_5_emb impl_CheckDigit_5_prj (impl_CheckDigit_5_b n)
noncomputable def impl_CheckDigit_5_c : Code := ((loopCodes impl_CheckDigit_code)[0]?).getD .skip
def impl_CheckDigit_ann : Ann := fun id => bif Nat.beq id 3000005 then some ⟨[], [3], []⟩ else bif Nat.beq id 2000005 then some ⟨[], [2], []⟩ else none
def impl_CheckDigit_Ls (n : Nat) : Nat → Option (LSpec T) := fun id => bif Nat.beq id 5 then some (impl_CheckDigit_5_sp n) else none
theorem impl_CheckDigit_5_le (n : Nat) : LoopEq (T := T) (Phi n 18) (impl_CheckDigit_Ls n) impl_CheckDigit_ann n impl_CheckDigit_5_c (impl_CheckDigit_5_sp n) := ⟨mkSpec_dec (fun y => rfl), fun c x => by kernel_rfl, fun K J c x => by kernel_rfl⟩
theorem impl_CheckDigit_tie (n : Nat) (name0 : ByteArray) : evF (T := T) (Phi n 18) (impl_CheckDigit_Ls n) impl_CheckDigit_ann n Try.f169 (sg 169) [vA T 9 name0] impl_CheckDigit_dec = impl_CheckDigit n name0 := by kernel_rfl
theorem impl_CheckDigit_lo (n : Nat) : LoopsOk (T := T) (Phi n 18) (impl_CheckDigit_Ls n) impl_CheckDigit_ann n impl_CheckDigit_code := loopsOk_all (cs := [impl_CheckDigit_5_c]) (by kernel_rfl) ⟨⟨_, by kernel_rfl, impl_CheckDigit_5_le n⟩, trivial⟩
theorem impl_CheckDigit_ok (n : Nat) : EntOk Try.prog (ents n) (impl_CheckDigit_ent n) := by
  intro hs ar y hg h
  replace h : impl_CheckDigit_D n ar = some y := h
  unfold impl_CheckDigit_D at h
  replace h := ocons_some h
  obtain ⟨a0, r0, rfl, h⟩ := h
  replace h := onil_some h
  obtain ⟨rfl, h⟩ := h
  obtain ⟨name0, qh0, h⟩ := obind_some h
  rw [argV_eq ok qh0]
  exact call_of (phiE_nat _ _) hs ok mixed Try.func169 (c := impl_CheckDigit_code) (by kernel_rfl) (impl_CheckDigit_lo n) (by kernel_rfl) (by kernel_rfl) (by kernel_rfl) impl_CheckDigit_de ((impl_CheckDigit_tie n name0).trans h)
noncomputable def impl_BoxName_code : Code := match Try.f139.body with | some c => c | none => .skip
def impl_BoxName_ann : Ann := fun id => none
def impl_BoxName_Ls (n : Nat) : Nat → Option (LSpec T) := fun id => none
theorem impl_BoxName_tie (n : Nat) (text0 : ByteArray) : evF (T := T) (Phi n 19) (impl_BoxName_Ls n) impl_BoxName_ann n Try.f139 (sg 139) [vA T 9 text0] impl_BoxName_dec = impl_BoxName n text0 := by kernel_rfl
theorem impl_BoxName_lo (n : Nat) : LoopsOk (T := T) (Phi n 19) (impl_BoxName_Ls n) impl_BoxName_ann n impl_BoxName_code := loopsOk_all (cs := []) (by kernel_rfl) trivial
theorem impl_BoxName_ok (n : Nat) : EntOk Try.prog (ents n) (impl_BoxName_ent n) := by
  intro hs ar y hg h
  replace h : impl_BoxName_D n ar = some y := h
  unfold impl_BoxName_D at h
  replace h := ocons_some h
  obtain ⟨a0, r0, rfl, h⟩ := h
  replace h := onil_some h
  obtain ⟨rfl, h⟩ := h
  obtain ⟨text0, qh0, h⟩ := obind_some h
  rw [argV_eq ok qh0]
  exact call_of (phiE_nat _ _) hs ok mixed Try.func139 (c := impl_BoxName_code) (by kernel_rfl) (impl_BoxName_lo n) (by kernel_rfl) (by kernel_rfl) (by kernel_rfl) impl_BoxName_de ((impl_BoxName_tie n text0).trans h)
noncomputable def impl_portOk_code : Code := match Try.f81.body with | some c => c | none => .skip
def impl_portOk_ann : Ann := fun id => none
def impl_portOk_Ls (n : Nat) : Nat → Option (LSpec T) := fun id => none
theorem impl_portOk_tie (n : Nat) (n0 : Int) : evF (T := T) (Phi n 20) (impl_portOk_Ls n) impl_portOk_ann n Try.f81 (sg 81) [vA T 3 n0] impl_portOk_dec = impl_portOk n n0 := by kernel_rfl
theorem impl_portOk_lo (n : Nat) : LoopsOk (T := T) (Phi n 20) (impl_portOk_Ls n) impl_portOk_ann n impl_portOk_code := loopsOk_all (cs := []) (by kernel_rfl) trivial
theorem impl_portOk_ok (n : Nat) : EntOk Try.prog (ents n) (impl_portOk_ent n) := by
  intro hs ar y hg h
  replace h : impl_portOk_D n ar = some y := h
  unfold impl_portOk_D at h
  replace h := ocons_some h
  obtain ⟨a0, r0, rfl, h⟩ := h
  replace h := onil_some h
  obtain ⟨rfl, h⟩ := h
  obtain ⟨n0, qh0, h⟩ := obind_some h
  rw [argV_eq ok qh0]
  exact call_of (phiE_nat _ _) hs ok mixed Try.func81 (c := impl_portOk_code) (by kernel_rfl) (impl_portOk_lo n) (by kernel_rfl) (by kernel_rfl) (by kernel_rfl) impl_portOk_de ((impl_portOk_tie n n0).trans h)
noncomputable def impl_BoxOk_code : Code := match Try.f69.body with | some c => c | none => .skip
def impl_BoxOk_ann : Ann := fun id => none
def impl_BoxOk_Ls (n : Nat) : Nat → Option (LSpec T) := fun id => none
theorem impl_BoxOk_tie (n : Nat) (b0 : SBox) : evF (T := T) (Phi n 21) (impl_BoxOk_Ls n) impl_BoxOk_ann n Try.f69 (sg 69) [vA T 32 b0] impl_BoxOk_dec = impl_BoxOk n b0 := by kernel_rfl
theorem impl_BoxOk_lo (n : Nat) : LoopsOk (T := T) (Phi n 21) (impl_BoxOk_Ls n) impl_BoxOk_ann n impl_BoxOk_code := loopsOk_all (cs := []) (by kernel_rfl) trivial
theorem impl_BoxOk_ok (n : Nat) : EntOk Try.prog (ents n) (impl_BoxOk_ent n) := by
  intro hs ar y hg h
  replace h : impl_BoxOk_D n ar = some y := h
  unfold impl_BoxOk_D at h
  replace h := ocons_some h
  obtain ⟨a0, r0, rfl, h⟩ := h
  replace h := onil_some h
  obtain ⟨rfl, h⟩ := h
  obtain ⟨b0, qh0, h⟩ := obind_some h
  rw [argV_eq ok qh0]
  exact call_of (phiE_nat _ _) hs ok mixed Try.func69 (c := impl_BoxOk_code) (by kernel_rfl) (impl_BoxOk_lo n) (by kernel_rfl) (by kernel_rfl) (by kernel_rfl) impl_BoxOk_de ((impl_BoxOk_tie n b0).trans h)
noncomputable def impl_StackOk_code : Code := match Try.f14.body with | some c => c | none => .skip
def impl_StackOk_5_sv : List Sv := [.one (.arr 32), .one (.int .i64), .one (.int .i64), .one (.arr 32), .one (.int .i64), .one (.int .i64)]
def impl_StackOk_5_so : List So := []
def impl_StackOk_5_emb (c : List SBox × Int × List SBox × Int) (x : Int × Int) : EVs T impl_StackOk_5_sv × EOs T impl_StackOk_5_so := ((c.1, c.2.1, x.1, c.2.2.1, c.2.2.2, x.2, ()), ())
def impl_StackOk_5_prj (y : EVs T impl_StackOk_5_sv × EOs T impl_StackOk_5_so) : (List SBox × Int × List SBox × Int) × (Int × Int) := ((y.1.1, y.1.2.1, y.1.2.2.2.1, y.1.2.2.2.2.1), (y.1.2.2.1, y.1.2.2.2.2.2.1))
def impl_StackOk_5_b (n : Nat) {R : Type} (K : Ex → Sm.St T → Option R) (c : List SBox × Int × List SBox × Int) (x : Int × Int) (J : (Int × Int) → Option R) : Option R :=
  impl_StackOk_L5 n (fun (y1 : Int) => K (.exit 0) (stOf (T := T) [1, 5] [] [.one (.int .i64), .one (.int .i64)] [] (c.2.1, y1, ()) ())) (fun (y0 : Bool) => K .ret (stOf (T := T) [4] [] [.one (.bool)] [] (y0, ()) ())) (fun z0 z1 => J (z0, z1)) c.1 c.2.1 x.1 c.2.2.1 c.2.2.2 x.2
def impl_StackOk_5_sp (n : Nat) : LSpec T := mkSpec T ⟨[], [0, 1, 5, 16, 17, 18], []⟩ impl_StackOk_5_sv impl_StackOk_5_so (List SBox × Int × List SBox × Int) (Int × Int) impl_StackOk_5_emb impl_StackOk_5_prj (impl_StackOk_5_b n)
noncomputable def impl_StackOk_5_c : Code := ((loopCodes impl_StackOk_code)[0]?).getD .skip
def impl_StackOk_ann : Ann := fun id => bif Nat.beq id 3000005 then some ⟨[], [1, 5], []⟩ else bif Nat.beq id 2000005 then some ⟨[], [4], []⟩ else none
def impl_StackOk_Ls (n : Nat) : Nat → Option (LSpec T) := fun id => bif Nat.beq id 5 then some (impl_StackOk_5_sp n) else none
theorem impl_StackOk_5_le (n : Nat) : LoopEq (T := T) (Phi n 22) (impl_StackOk_Ls n) impl_StackOk_ann n impl_StackOk_5_c (impl_StackOk_5_sp n) := ⟨mkSpec_dec (fun y => rfl), fun c x => by kernel_rfl, fun K J c x => by kernel_rfl⟩
theorem impl_StackOk_tie (n : Nat) (boxes0 : List SBox) (most1 : Int) : evF (T := T) (Phi n 22) (impl_StackOk_Ls n) impl_StackOk_ann n Try.f14 (sg 14) [vA T 24 boxes0, vA T 3 most1] impl_StackOk_dec = impl_StackOk n boxes0 most1 := by kernel_rfl
theorem impl_StackOk_lo (n : Nat) : LoopsOk (T := T) (Phi n 22) (impl_StackOk_Ls n) impl_StackOk_ann n impl_StackOk_code := loopsOk_all (cs := [impl_StackOk_5_c]) (by kernel_rfl) ⟨⟨_, by kernel_rfl, impl_StackOk_5_le n⟩, trivial⟩
theorem impl_StackOk_ok (n : Nat) : EntOk Try.prog (ents n) (impl_StackOk_ent n) := by
  intro hs ar y hg h
  replace h : impl_StackOk_D n ar = some y := h
  unfold impl_StackOk_D at h
  replace h := ocons_some h
  obtain ⟨a0, r0, rfl, h⟩ := h
  replace h := ocons_some h
  obtain ⟨a1, r1, rfl, h⟩ := h
  replace h := onil_some h
  obtain ⟨rfl, h⟩ := h
  obtain ⟨boxes0, qh0, h⟩ := obind_some h
  obtain ⟨most1, qh1, h⟩ := obind_some h
  rw [argV_eq ok qh0, argV_eq ok qh1]
  exact call_of (phiE_nat _ _) hs ok mixed Try.func14 (c := impl_StackOk_code) (by kernel_rfl) (impl_StackOk_lo n) (by kernel_rfl) (by kernel_rfl) (by kernel_rfl) impl_StackOk_de ((impl_StackOk_tie n boxes0 most1).trans h)
noncomputable def spec_BoxName_code : Code := match Try.f140.body with | some c => c | none => .skip
def spec_BoxName_ann : Ann := fun id => none
def spec_BoxName_Ls (n : Nat) : Nat → Option (LSpec T) := fun id => none
theorem spec_BoxName_tie (n : Nat) (text0 : ByteArray) : evF (T := T) (Phi n 23) (spec_BoxName_Ls n) spec_BoxName_ann n Try.f140 (sg 140) [vA T 9 text0] spec_BoxName_dec = spec_BoxName n text0 := by kernel_rfl
theorem spec_BoxName_lo (n : Nat) : LoopsOk (T := T) (Phi n 23) (spec_BoxName_Ls n) spec_BoxName_ann n spec_BoxName_code := loopsOk_all (cs := []) (by kernel_rfl) trivial
theorem spec_BoxName_ok (n : Nat) : EntOk Try.prog (ents n) (spec_BoxName_ent n) := by
  intro hs ar y hg h
  replace h : spec_BoxName_D n ar = some y := h
  unfold spec_BoxName_D at h
  replace h := ocons_some h
  obtain ⟨a0, r0, rfl, h⟩ := h
  replace h := onil_some h
  obtain ⟨rfl, h⟩ := h
  obtain ⟨text0, qh0, h⟩ := obind_some h
  rw [argV_eq ok qh0]
  exact call_of (phiE_nat _ _) hs ok mixed Try.func140 (c := spec_BoxName_code) (by kernel_rfl) (spec_BoxName_lo n) (by kernel_rfl) (by kernel_rfl) (by kernel_rfl) spec_BoxName_de ((spec_BoxName_tie n text0).trans h)
noncomputable def spec_BoxOk_code : Code := match Try.f70.body with | some c => c | none => .skip
def spec_BoxOk_ann : Ann := fun id => none
def spec_BoxOk_Ls (n : Nat) : Nat → Option (LSpec T) := fun id => none
theorem spec_BoxOk_tie (n : Nat) (b0 : SBox) : evF (T := T) (Phi n 24) (spec_BoxOk_Ls n) spec_BoxOk_ann n Try.f70 (sg 70) [vA T 32 b0] spec_BoxOk_dec = spec_BoxOk n b0 := by kernel_rfl
theorem spec_BoxOk_lo (n : Nat) : LoopsOk (T := T) (Phi n 24) (spec_BoxOk_Ls n) spec_BoxOk_ann n spec_BoxOk_code := loopsOk_all (cs := []) (by kernel_rfl) trivial
theorem spec_BoxOk_ok (n : Nat) : EntOk Try.prog (ents n) (spec_BoxOk_ent n) := by
  intro hs ar y hg h
  replace h : spec_BoxOk_D n ar = some y := h
  unfold spec_BoxOk_D at h
  replace h := ocons_some h
  obtain ⟨a0, r0, rfl, h⟩ := h
  replace h := onil_some h
  obtain ⟨rfl, h⟩ := h
  obtain ⟨b0, qh0, h⟩ := obind_some h
  rw [argV_eq ok qh0]
  exact call_of (phiE_nat _ _) hs ok mixed Try.func70 (c := spec_BoxOk_code) (by kernel_rfl) (spec_BoxOk_lo n) (by kernel_rfl) (by kernel_rfl) (by kernel_rfl) spec_BoxOk_de ((spec_BoxOk_tie n b0).trans h)
noncomputable def spec_StackOk_code : Code := match Try.f15.body with | some c => c | none => .skip
def spec_StackOk_3_sv : List Sv := [.one (.arr 32), .one (.int .i64), .one (.int .i64), .one (.int .i64)]
def spec_StackOk_3_so : List So := []
def spec_StackOk_3_emb (c : List SBox × Int) (x : Int × Int) : EVs T spec_StackOk_3_sv × EOs T spec_StackOk_3_so := ((c.1, c.2, x.1, x.2, ()), ())
def spec_StackOk_3_prj (y : EVs T spec_StackOk_3_sv × EOs T spec_StackOk_3_so) : (List SBox × Int) × (Int × Int) := ((y.1.1, y.1.2.1), (y.1.2.2.1, y.1.2.2.2.1))
def spec_StackOk_3_b (n : Nat) {R : Type} (K : Ex → Sm.St T → Option R) (c : List SBox × Int) (x : Int × Int) (J : (Int × Int) → Option R) : Option R :=
  spec_StackOk_L3 n (fun (y1 : Int) => K (.exit 0) (stOf (T := T) [1, 5] [] [.one (.int .i64), .one (.int .i64)] [] (c.2, y1, ()) ())) (fun (y0 : Bool) => K .ret (stOf (T := T) [4] [] [.one (.bool)] [] (y0, ()) ())) (fun z0 z1 => J (z0, z1)) c.1 c.2 x.1 x.2
def spec_StackOk_3_sp (n : Nat) : LSpec T := mkSpec T ⟨[], [0, 1, 5, 6], []⟩ spec_StackOk_3_sv spec_StackOk_3_so (List SBox × Int) (Int × Int) spec_StackOk_3_emb spec_StackOk_3_prj (spec_StackOk_3_b n)
noncomputable def spec_StackOk_3_c : Code := ((loopCodes spec_StackOk_code)[0]?).getD .skip
def spec_StackOk_ann : Ann := fun id => bif Nat.beq id 3000003 then some ⟨[], [1, 5], []⟩ else bif Nat.beq id 2000003 then some ⟨[], [4], []⟩ else none
def spec_StackOk_Ls (n : Nat) : Nat → Option (LSpec T) := fun id => bif Nat.beq id 3 then some (spec_StackOk_3_sp n) else none
theorem spec_StackOk_3_le (n : Nat) : LoopEq (T := T) (Phi n 25) (spec_StackOk_Ls n) spec_StackOk_ann n spec_StackOk_3_c (spec_StackOk_3_sp n) := ⟨mkSpec_dec (fun y => rfl), fun c x => by kernel_rfl, fun K J c x => by kernel_rfl⟩
theorem spec_StackOk_tie (n : Nat) (boxes0 : List SBox) (most1 : Int) : evF (T := T) (Phi n 25) (spec_StackOk_Ls n) spec_StackOk_ann n Try.f15 (sg 15) [vA T 24 boxes0, vA T 3 most1] spec_StackOk_dec = spec_StackOk n boxes0 most1 := by kernel_rfl
theorem spec_StackOk_lo (n : Nat) : LoopsOk (T := T) (Phi n 25) (spec_StackOk_Ls n) spec_StackOk_ann n spec_StackOk_code := loopsOk_all (cs := [spec_StackOk_3_c]) (by kernel_rfl) ⟨⟨_, by kernel_rfl, spec_StackOk_3_le n⟩, trivial⟩
theorem spec_StackOk_ok (n : Nat) : EntOk Try.prog (ents n) (spec_StackOk_ent n) := by
  intro hs ar y hg h
  replace h : spec_StackOk_D n ar = some y := h
  unfold spec_StackOk_D at h
  replace h := ocons_some h
  obtain ⟨a0, r0, rfl, h⟩ := h
  replace h := ocons_some h
  obtain ⟨a1, r1, rfl, h⟩ := h
  replace h := onil_some h
  obtain ⟨rfl, h⟩ := h
  obtain ⟨boxes0, qh0, h⟩ := obind_some h
  obtain ⟨most1, qh1, h⟩ := obind_some h
  rw [argV_eq ok qh0, argV_eq ok qh1]
  exact call_of (phiE_nat _ _) hs ok mixed Try.func15 (c := spec_StackOk_code) (by kernel_rfl) (spec_StackOk_lo n) (by kernel_rfl) (by kernel_rfl) (by kernel_rfl) spec_StackOk_de ((spec_StackOk_tie n boxes0 most1).trans h)
noncomputable def laws_at_code : Code := match Try.f17.body with | some c => c | none => .skip
def laws_at_ann : Ann := fun id => none
def laws_at_Ls (n : Nat) : Nat → Option (LSpec T) := fun id => none
theorem laws_at_tie (n : Nat) (code0 : List Int) (i1 : Int) : evF (T := T) (Phi n 26) (laws_at_Ls n) laws_at_ann n Try.f17 (sg 17) [vA T 22 code0, vA T 3 i1] laws_at_dec = laws_at n code0 i1 := by kernel_rfl
theorem laws_at_lo (n : Nat) : LoopsOk (T := T) (Phi n 26) (laws_at_Ls n) laws_at_ann n laws_at_code := loopsOk_all (cs := []) (by kernel_rfl) trivial
theorem laws_at_ok (n : Nat) : EntOk Try.prog (ents n) (laws_at_ent n) := by
  intro hs ar y hg h
  replace h : laws_at_D n ar = some y := h
  unfold laws_at_D at h
  replace h := ocons_some h
  obtain ⟨a0, r0, rfl, h⟩ := h
  replace h := ocons_some h
  obtain ⟨a1, r1, rfl, h⟩ := h
  replace h := onil_some h
  obtain ⟨rfl, h⟩ := h
  obtain ⟨code0, qh0, h⟩ := obind_some h
  obtain ⟨i1, qh1, h⟩ := obind_some h
  rw [argV_eq ok qh0, argV_eq ok qh1]
  exact call_of (phiE_nat _ _) hs ok mixed Try.func17 (c := laws_at_code) (by kernel_rfl) (laws_at_lo n) (by kernel_rfl) (by kernel_rfl) (by kernel_rfl) laws_at_de ((laws_at_tie n code0 i1).trans h)
noncomputable def impl_Lashes_1_code : Code := match Try.f73.body with | some c => c | none => .skip
def impl_Lashes_1_ann : Ann := fun id => none
def impl_Lashes_1_Ls (n : Nat) : Nat → Option (LSpec T) := fun id => none
theorem impl_Lashes_1_tie (n : Nat) (b0 : SBox) : evF (T := T) (Phi n 27) (impl_Lashes_1_Ls n) impl_Lashes_1_ann n Try.f73 (sg 73) [vA T 32 b0] impl_Lashes_1_dec = impl_Lashes_1 n b0 := by kernel_rfl
theorem impl_Lashes_1_lo (n : Nat) : LoopsOk (T := T) (Phi n 27) (impl_Lashes_1_Ls n) impl_Lashes_1_ann n impl_Lashes_1_code := loopsOk_all (cs := []) (by kernel_rfl) trivial
theorem impl_Lashes_1_ok (n : Nat) : EntOk Try.prog (ents n) (impl_Lashes_1_ent n) := by
  intro hs ar y hg h
  replace h : impl_Lashes_1_D n ar = some y := h
  unfold impl_Lashes_1_D at h
  replace h := ocons_some h
  obtain ⟨a0, r0, rfl, h⟩ := h
  replace h := onil_some h
  obtain ⟨rfl, h⟩ := h
  obtain ⟨b0, qh0, h⟩ := obind_some h
  rw [argV_eq ok qh0]
  exact call_of (phiE_nat _ _) hs ok mixed Try.func73 (c := impl_Lashes_1_code) (by kernel_rfl) (impl_Lashes_1_lo n) (by kernel_rfl) (by kernel_rfl) (by kernel_rfl) impl_Lashes_1_de ((impl_Lashes_1_tie n b0).trans h)
noncomputable def slices_IndexFunc_impl_Box_impl_Box__impl_Lashes_1_code : Code := match Try.f141.body with | some c => c | none => .skip
def slices_IndexFunc_impl_Box_impl_Box__impl_Lashes_1_2_sv : List Sv := [.one (.arr 32), .one (.fn 73 []), .one (.int .i64), .one (.int .i64)]
def slices_IndexFunc_impl_Box_impl_Box__impl_Lashes_1_2_so : List So := []
def slices_IndexFunc_impl_Box_impl_Box__impl_Lashes_1_2_emb (c : List SBox × Int) (x : Int) : EVs T slices_IndexFunc_impl_Box_impl_Box__impl_Lashes_1_2_sv × EOs T slices_IndexFunc_impl_Box_impl_Box__impl_Lashes_1_2_so := ((c.1, (), c.2, x, ()), ())
def slices_IndexFunc_impl_Box_impl_Box__impl_Lashes_1_2_prj (y : EVs T slices_IndexFunc_impl_Box_impl_Box__impl_Lashes_1_2_sv × EOs T slices_IndexFunc_impl_Box_impl_Box__impl_Lashes_1_2_so) : (List SBox × Int) × Int := ((y.1.1, y.1.2.2.1), (y.1.2.2.2.1))
def slices_IndexFunc_impl_Box_impl_Box__impl_Lashes_1_2_b (n : Nat) {R : Type} (K : Ex → Sm.St T → Option R) (c : List SBox × Int) (x : Int) (J : Int → Option R) : Option R :=
  slices_IndexFunc_impl_Box_impl_Box__impl_Lashes_1_L2 n (K (.exit 0) (stOf (T := T) [] [] [] [] () ())) (fun (y0 : Int) => K .ret (stOf (T := T) [4] [] [.one (.int .i64)] [] (y0, ()) ())) J c.1 c.2 x
def slices_IndexFunc_impl_Box_impl_Box__impl_Lashes_1_2_sp (n : Nat) : LSpec T := mkSpec T ⟨[], [0, 1, 7, 8], []⟩ slices_IndexFunc_impl_Box_impl_Box__impl_Lashes_1_2_sv slices_IndexFunc_impl_Box_impl_Box__impl_Lashes_1_2_so (List SBox × Int) (Int) slices_IndexFunc_impl_Box_impl_Box__impl_Lashes_1_2_emb slices_IndexFunc_impl_Box_impl_Box__impl_Lashes_1_2_prj (slices_IndexFunc_impl_Box_impl_Box__impl_Lashes_1_2_b n)
noncomputable def slices_IndexFunc_impl_Box_impl_Box__impl_Lashes_1_2_c : Code := ((loopCodes slices_IndexFunc_impl_Box_impl_Box__impl_Lashes_1_code)[0]?).getD .skip
def slices_IndexFunc_impl_Box_impl_Box__impl_Lashes_1_ann : Ann := fun id => bif Nat.beq id 3000002 then some ⟨[], [], []⟩ else bif Nat.beq id 2000002 then some ⟨[], [4], []⟩ else none
def slices_IndexFunc_impl_Box_impl_Box__impl_Lashes_1_Ls (n : Nat) : Nat → Option (LSpec T) := fun id => bif Nat.beq id 2 then some (slices_IndexFunc_impl_Box_impl_Box__impl_Lashes_1_2_sp n) else none
theorem slices_IndexFunc_impl_Box_impl_Box__impl_Lashes_1_2_le (n : Nat) : LoopEq (T := T) (Phi n 28) (slices_IndexFunc_impl_Box_impl_Box__impl_Lashes_1_Ls n) slices_IndexFunc_impl_Box_impl_Box__impl_Lashes_1_ann n slices_IndexFunc_impl_Box_impl_Box__impl_Lashes_1_2_c (slices_IndexFunc_impl_Box_impl_Box__impl_Lashes_1_2_sp n) := ⟨mkSpec_dec (fun y => rfl), fun c x => by kernel_rfl, fun K J c x => by kernel_rfl⟩
theorem slices_IndexFunc_impl_Box_impl_Box__impl_Lashes_1_tie (n : Nat) (s0 : List SBox) : evF (T := T) (Phi n 28) (slices_IndexFunc_impl_Box_impl_Box__impl_Lashes_1_Ls n) slices_IndexFunc_impl_Box_impl_Box__impl_Lashes_1_ann n Try.f141 (sg 141) [vA T 24 s0, .fn 73 []] slices_IndexFunc_impl_Box_impl_Box__impl_Lashes_1_dec = slices_IndexFunc_impl_Box_impl_Box__impl_Lashes_1 n s0 := by kernel_rfl
theorem slices_IndexFunc_impl_Box_impl_Box__impl_Lashes_1_lo (n : Nat) : LoopsOk (T := T) (Phi n 28) (slices_IndexFunc_impl_Box_impl_Box__impl_Lashes_1_Ls n) slices_IndexFunc_impl_Box_impl_Box__impl_Lashes_1_ann n slices_IndexFunc_impl_Box_impl_Box__impl_Lashes_1_code := loopsOk_all (cs := [slices_IndexFunc_impl_Box_impl_Box__impl_Lashes_1_2_c]) (by kernel_rfl) ⟨⟨_, by kernel_rfl, slices_IndexFunc_impl_Box_impl_Box__impl_Lashes_1_2_le n⟩, trivial⟩
theorem slices_IndexFunc_impl_Box_impl_Box__impl_Lashes_1_ok (n : Nat) : EntOk Try.prog (ents n) (slices_IndexFunc_impl_Box_impl_Box__impl_Lashes_1_ent n) := by
  intro hs ar y hg h
  replace h : slices_IndexFunc_impl_Box_impl_Box__impl_Lashes_1_D n ar = some y := h
  unfold slices_IndexFunc_impl_Box_impl_Box__impl_Lashes_1_D at h
  split at h
  · obtain ⟨s0, qh0, h⟩ := obind_some h
    rw [argV_eq ok qh0] at hg ⊢
    cases (show [_] = [73] from natsEq_eq hg)
    exact call_of (phiE_nat _ _) hs ok mixed Try.func141 (c := slices_IndexFunc_impl_Box_impl_Box__impl_Lashes_1_code) (by kernel_rfl) (slices_IndexFunc_impl_Box_impl_Box__impl_Lashes_1_lo n) (by kernel_rfl) (by kernel_rfl) (by kernel_rfl) slices_IndexFunc_impl_Box_impl_Box__impl_Lashes_1_de ((slices_IndexFunc_impl_Box_impl_Box__impl_Lashes_1_tie n s0).trans h)
  · cases h
noncomputable def slices_ContainsFunc_impl_Box_impl_Box__impl_Lashes_1_code : Code := match Try.f72.body with | some c => c | none => .skip
def slices_ContainsFunc_impl_Box_impl_Box__impl_Lashes_1_ann : Ann := fun id => none
def slices_ContainsFunc_impl_Box_impl_Box__impl_Lashes_1_Ls (n : Nat) : Nat → Option (LSpec T) := fun id => none
theorem slices_ContainsFunc_impl_Box_impl_Box__impl_Lashes_1_tie (n : Nat) (s0 : List SBox) : evF (T := T) (Phi n 29) (slices_ContainsFunc_impl_Box_impl_Box__impl_Lashes_1_Ls n) slices_ContainsFunc_impl_Box_impl_Box__impl_Lashes_1_ann n Try.f72 (sg 72) [vA T 24 s0, .fn 73 []] slices_ContainsFunc_impl_Box_impl_Box__impl_Lashes_1_dec = slices_ContainsFunc_impl_Box_impl_Box__impl_Lashes_1 n s0 := by kernel_rfl
theorem slices_ContainsFunc_impl_Box_impl_Box__impl_Lashes_1_lo (n : Nat) : LoopsOk (T := T) (Phi n 29) (slices_ContainsFunc_impl_Box_impl_Box__impl_Lashes_1_Ls n) slices_ContainsFunc_impl_Box_impl_Box__impl_Lashes_1_ann n slices_ContainsFunc_impl_Box_impl_Box__impl_Lashes_1_code := loopsOk_all (cs := []) (by kernel_rfl) trivial
theorem slices_ContainsFunc_impl_Box_impl_Box__impl_Lashes_1_ok (n : Nat) : EntOk Try.prog (ents n) (slices_ContainsFunc_impl_Box_impl_Box__impl_Lashes_1_ent n) := by
  intro hs ar y hg h
  replace h : slices_ContainsFunc_impl_Box_impl_Box__impl_Lashes_1_D n ar = some y := h
  unfold slices_ContainsFunc_impl_Box_impl_Box__impl_Lashes_1_D at h
  split at h
  · obtain ⟨s0, qh0, h⟩ := obind_some h
    rw [argV_eq ok qh0] at hg ⊢
    cases (show [_] = [73] from natsEq_eq hg)
    exact call_of (phiE_nat _ _) hs ok mixed Try.func72 (c := slices_ContainsFunc_impl_Box_impl_Box__impl_Lashes_1_code) (by kernel_rfl) (slices_ContainsFunc_impl_Box_impl_Box__impl_Lashes_1_lo n) (by kernel_rfl) (by kernel_rfl) (by kernel_rfl) slices_ContainsFunc_impl_Box_impl_Box__impl_Lashes_1_de ((slices_ContainsFunc_impl_Box_impl_Box__impl_Lashes_1_tie n s0).trans h)
  · cases h
noncomputable def impl_Lashes_code : Code := match Try.f16.body with | some c => c | none => .skip
def impl_Lashes_5_sv : List Sv := [.one (.arr 32), .one (.int .i64), .one (.int .i64), .one (.int .i64), .one (.arr 32), .one (.int .i64), .one (.int .i64)]
def impl_Lashes_5_so : List So := []
def impl_Lashes_5_emb (c : List SBox × Int × List SBox × Int) (x : Int × Int × Int) : EVs T impl_Lashes_5_sv × EOs T impl_Lashes_5_so := ((c.1, c.2.1, x.1, x.2.1, c.2.2.1, c.2.2.2, x.2.2, ()), ())
def impl_Lashes_5_prj (y : EVs T impl_Lashes_5_sv × EOs T impl_Lashes_5_so) : (List SBox × Int × List SBox × Int) × (Int × Int × Int) := ((y.1.1, y.1.2.1, y.1.2.2.2.2.1, y.1.2.2.2.2.2.1), (y.1.2.2.1, y.1.2.2.2.1, y.1.2.2.2.2.2.2.1))
def impl_Lashes_5_b (n : Nat) {R : Type} (K : Ex → Sm.St T → Option R) (c : List SBox × Int × List SBox × Int) (x : Int × Int × Int) (J : (Int × Int × Int) → Option R) : Option R :=
  impl_Lashes_L5 n (fun (y0 : Int) => K (.exit 0) (stOf (T := T) [6] [] [.one (.int .i64)] [] (y0, ()) ())) (fun z0 z1 z2 => J (z0, z1, z2)) c.1 c.2.1 x.1 x.2.1 c.2.2.1 c.2.2.2 x.2.2
def impl_Lashes_5_sp (n : Nat) : LSpec T := mkSpec T ⟨[], [0, 1, 6, 7, 23, 24, 25], []⟩ impl_Lashes_5_sv impl_Lashes_5_so (List SBox × Int × List SBox × Int) (Int × Int × Int) impl_Lashes_5_emb impl_Lashes_5_prj (impl_Lashes_5_b n)
noncomputable def impl_Lashes_5_c : Code := ((loopCodes impl_Lashes_code)[0]?).getD .skip
def impl_Lashes_ann : Ann := fun id => bif Nat.beq id 3000005 then some ⟨[], [6], []⟩ else none
def impl_Lashes_Ls (n : Nat) : Nat → Option (LSpec T) := fun id => bif Nat.beq id 5 then some (impl_Lashes_5_sp n) else none
theorem impl_Lashes_5_le (n : Nat) : LoopEq (T := T) (Phi n 30) (impl_Lashes_Ls n) impl_Lashes_ann n impl_Lashes_5_c (impl_Lashes_5_sp n) := ⟨mkSpec_dec (fun y => rfl), fun c x => by kernel_rfl, fun K J c x => by kernel_rfl⟩
theorem impl_Lashes_tie (n : Nat) (boxes0 : List SBox) (wind1 : Int) : evF (T := T) (Phi n 30) (impl_Lashes_Ls n) impl_Lashes_ann n Try.f16 (sg 16) [vA T 24 boxes0, vA T 3 wind1] impl_Lashes_dec = impl_Lashes n boxes0 wind1 := by kernel_rfl
theorem impl_Lashes_lo (n : Nat) : LoopsOk (T := T) (Phi n 30) (impl_Lashes_Ls n) impl_Lashes_ann n impl_Lashes_code := loopsOk_all (cs := [impl_Lashes_5_c]) (by kernel_rfl) ⟨⟨_, by kernel_rfl, impl_Lashes_5_le n⟩, trivial⟩
theorem impl_Lashes_ok (n : Nat) : EntOk Try.prog (ents n) (impl_Lashes_ent n) := by
  intro hs ar y hg h
  replace h : impl_Lashes_D n ar = some y := h
  unfold impl_Lashes_D at h
  replace h := ocons_some h
  obtain ⟨a0, r0, rfl, h⟩ := h
  replace h := ocons_some h
  obtain ⟨a1, r1, rfl, h⟩ := h
  replace h := onil_some h
  obtain ⟨rfl, h⟩ := h
  obtain ⟨boxes0, qh0, h⟩ := obind_some h
  obtain ⟨wind1, qh1, h⟩ := obind_some h
  rw [argV_eq ok qh0, argV_eq ok qh1]
  exact call_of (phiE_nat _ _) hs ok mixed Try.func16 (c := impl_Lashes_code) (by kernel_rfl) (impl_Lashes_lo n) (by kernel_rfl) (by kernel_rfl) (by kernel_rfl) impl_Lashes_de ((impl_Lashes_tie n boxes0 wind1).trans h)
noncomputable def spec_Lashes_code : Code := match Try.f18.body with | some c => c | none => .skip
def spec_Lashes_5_sv : List Sv := [.one (.arr 32), .one (.int .i64), .one (.int .i64), .one (.int .i64), .one (.int .i64)]
def spec_Lashes_5_so : List So := []
def spec_Lashes_5_emb (c : List SBox × Int) (x : Int × Int × Int) : EVs T spec_Lashes_5_sv × EOs T spec_Lashes_5_so := ((c.1, c.2, x.1, x.2.1, x.2.2, ()), ())
def spec_Lashes_5_prj (y : EVs T spec_Lashes_5_sv × EOs T spec_Lashes_5_so) : (List SBox × Int) × (Int × Int × Int) := ((y.1.1, y.1.2.1), (y.1.2.2.1, y.1.2.2.2.1, y.1.2.2.2.2.1))
def spec_Lashes_5_b (n : Nat) {R : Type} (K : Ex → Sm.St T → Option R) (c : List SBox × Int) (x : Int × Int × Int) (J : (Int × Int × Int) → Option R) : Option R :=
  spec_Lashes_L5 n (fun (y0 : Int) => K (.exit 0) (stOf (T := T) [6] [] [.one (.int .i64)] [] (y0, ()) ())) (fun (y0 : Int) (y1 : Bool) => K .ret (stOf (T := T) [4, 5] [] [.one (.int .i64), .one (.bool)] [] (y0, y1, ()) ())) (fun z0 z1 z2 => J (z0, z1, z2)) c.1 c.2 x.1 x.2.1 x.2.2
def spec_Lashes_5_sp (n : Nat) : LSpec T := mkSpec T ⟨[], [0, 1, 6, 7, 8], []⟩ spec_Lashes_5_sv spec_Lashes_5_so (List SBox × Int) (Int × Int × Int) spec_Lashes_5_emb spec_Lashes_5_prj (spec_Lashes_5_b n)
noncomputable def spec_Lashes_5_c : Code := ((loopCodes spec_Lashes_code)[0]?).getD .skip
def spec_Lashes_ann : Ann := fun id => bif Nat.beq id 3000005 then some ⟨[], [6], []⟩ else bif Nat.beq id 2000005 then some ⟨[], [4, 5], []⟩ else none
def spec_Lashes_Ls (n : Nat) : Nat → Option (LSpec T) := fun id => bif Nat.beq id 5 then some (spec_Lashes_5_sp n) else none
theorem spec_Lashes_5_le (n : Nat) : LoopEq (T := T) (Phi n 31) (spec_Lashes_Ls n) spec_Lashes_ann n spec_Lashes_5_c (spec_Lashes_5_sp n) := ⟨mkSpec_dec (fun y => rfl), fun c x => by kernel_rfl, fun K J c x => by kernel_rfl⟩
theorem spec_Lashes_tie (n : Nat) (boxes0 : List SBox) (wind1 : Int) : evF (T := T) (Phi n 31) (spec_Lashes_Ls n) spec_Lashes_ann n Try.f18 (sg 18) [vA T 24 boxes0, vA T 3 wind1] spec_Lashes_dec = spec_Lashes n boxes0 wind1 := by kernel_rfl
theorem spec_Lashes_lo (n : Nat) : LoopsOk (T := T) (Phi n 31) (spec_Lashes_Ls n) spec_Lashes_ann n spec_Lashes_code := loopsOk_all (cs := [spec_Lashes_5_c]) (by kernel_rfl) ⟨⟨_, by kernel_rfl, spec_Lashes_5_le n⟩, trivial⟩
theorem spec_Lashes_ok (n : Nat) : EntOk Try.prog (ents n) (spec_Lashes_ent n) := by
  intro hs ar y hg h
  replace h : spec_Lashes_D n ar = some y := h
  unfold spec_Lashes_D at h
  replace h := ocons_some h
  obtain ⟨a0, r0, rfl, h⟩ := h
  replace h := ocons_some h
  obtain ⟨a1, r1, rfl, h⟩ := h
  replace h := onil_some h
  obtain ⟨rfl, h⟩ := h
  obtain ⟨boxes0, qh0, h⟩ := obind_some h
  obtain ⟨wind1, qh1, h⟩ := obind_some h
  rw [argV_eq ok qh0, argV_eq ok qh1]
  exact call_of (phiE_nat _ _) hs ok mixed Try.func18 (c := spec_Lashes_code) (by kernel_rfl) (spec_Lashes_lo n) (by kernel_rfl) (by kernel_rfl) (by kernel_rfl) spec_Lashes_de ((spec_Lashes_tie n boxes0 wind1).trans h)
noncomputable def laws_FnStacks_code : Code := match Try.f3.body with | some c => c | none => .skip
def laws_FnStacks_ann : Ann := fun id => none
def laws_FnStacks_Ls (n : Nat) : Nat → Option (LSpec T) := fun id => none
theorem laws_FnStacks_tie (n : Nat) (code0 : List Int) : evF (T := T) (Phi n 32) (laws_FnStacks_Ls n) laws_FnStacks_ann n Try.f3 (sg 3) [vA T 22 code0] laws_FnStacks_dec = laws_FnStacks n code0 := by kernel_rfl
theorem laws_FnStacks_lo (n : Nat) : LoopsOk (T := T) (Phi n 32) (laws_FnStacks_Ls n) laws_FnStacks_ann n laws_FnStacks_code := loopsOk_all (cs := []) (by kernel_rfl) trivial
theorem laws_FnStacks_ok (n : Nat) : EntOk Try.prog (ents n) (laws_FnStacks_ent n) := by
  intro hs ar y hg h
  replace h : laws_FnStacks_D n ar = some y := h
  unfold laws_FnStacks_D at h
  replace h := ocons_some h
  obtain ⟨a0, r0, rfl, h⟩ := h
  replace h := onil_some h
  obtain ⟨rfl, h⟩ := h
  obtain ⟨code0, qh0, h⟩ := obind_some h
  rw [argV_eq ok qh0]
  exact call_of (phiE_nat _ _) hs ok mixed Try.func3 (c := laws_FnStacks_code) (by kernel_rfl) (laws_FnStacks_lo n) (by kernel_rfl) (by kernel_rfl) (by kernel_rfl) laws_FnStacks_de ((laws_FnStacks_tie n code0).trans h)
theorem entsOk (n : Nat) : EntsOk Try.prog (ents n) (ents n) := ⟨laws_big_ok n, spec_l1New_ok n, spec_l1Byte_ok n, spec_l1Below_ok n, spec_l1In_ok n, spec_l11Letter_ok n, spec_CheckDigit_ok n, spec_l11DrawName_ok n, spec_l1Once_ok n, spec_l11Draw_ok n, spec_l1Pick_ok n, spec_l11DrawText_ok n, spec_l1PickInt_ok n, spec_l11DrawAny_ok n, spec_l11DrawStack_ok n, spec_DrawStackOk_ok n, impl_in_ok n, impl_valueOf_ok n, impl_CheckDigit_ok n, impl_BoxName_ok n, impl_portOk_ok n, impl_BoxOk_ok n, impl_StackOk_ok n, spec_BoxName_ok n, spec_BoxOk_ok n, spec_StackOk_ok n, laws_at_ok n, impl_Lashes_1_ok n, slices_IndexFunc_impl_Box_impl_Box__impl_Lashes_1_ok n, slices_ContainsFunc_impl_Box_impl_Box__impl_Lashes_1_ok n, impl_Lashes_ok n, spec_Lashes_ok n, laws_FnStacks_ok n, trivial⟩
theorem sem (n i : Nat) : SemOk (Phi n i) (CallOk Try.prog T) := phiE_ok (entsOk n) i
end Go.Sm.C3
