import Derived.Test.YtakllmgiobpmgaaE9Tb
import Derived.KernelRfl
/- Each function's code computes what the plain function computes. -/
set_option linter.unusedSimpArgs false
set_option linter.deprecated false
set_option linter.unusedSectionVars false
set_option linter.unusedVariables false
set_option maxRecDepth 100000
open Go Go.Proofs
noncomputable section
namespace Go.Sm.E9
/-- By recursors, and of a greater height than all of the functions: the kernel takes these apart first. -/
def obind {α β : Type} (o : Option α) (f : α → Option β) : Option β := let _ := @laws_FnExactReadSegs; Option.rec (motive := fun _ => Option β) none (fun a => f a) o
theorem obind_some {α β : Type} {o : Option α} {f : α → Option β} {y : β} (h : obind o f = some y) : ∃ a, o = some a ∧ f a = some y := by
  cases o with
  | none => cases h
  | some a => exact ⟨a, rfl, h⟩
def ocons {β : Type} (l : List (A T)) (f : A T → List (A T) → Option β) : Option β := let _ := @laws_FnExactReadSegs; List.rec (motive := fun _ => Option β) none (fun a r _ => f a r) l
theorem ocons_some {β : Type} {l : List (A T)} {f : A T → List (A T) → Option β} {y : β} (h : ocons l f = some y) : ∃ a r, l = a :: r ∧ f a r = some y := by
  cases l with
  | nil => cases h
  | cons a r => exact ⟨a, r, rfl, h⟩
def onil {β : Type} (l : List (A T)) (x : Option β) : Option β := let _ := @laws_FnExactReadSegs; List.rec (motive := fun _ => Option β) x (fun _ _ _ => none) l
theorem onil_some {β : Type} {l : List (A T)} {x : Option β} {y : β} (h : onil l x = some y) : l = [] ∧ x = some y := by
  cases l with
  | nil => exact ⟨rfl, h⟩
  | cons a r => cases h
def spec_l1In_dec (res : Res T) : Option Bool := match res.rets, res.outs with
  | [a0], [] => (retV (T := T) 4 a0).bind fun r0 => some (r0)
  | _, _ => none
def spec_l1In_enc (y : Bool) : Res T := ⟨[vR T 4 y], []⟩
theorem spec_l1In_de (res : Res T) (y : Bool) (h : spec_l1In_dec res = some y) : res = spec_l1In_enc y := by
  obtain ⟨rets, outs⟩ := res
  unfold spec_l1In_dec at h
  dsimp only at h
  split at h
  · obtain ⟨r0, h0, h⟩ := Option.bind_eq_some_iff.1 h
    cases h
    rw [retV_eq ok h0]
    rfl
  · cases h
def spec_l21Head_dec (res : Res T) : Option Bool := match res.rets, res.outs with
  | [a0], [] => (retV (T := T) 4 a0).bind fun r0 => some (r0)
  | _, _ => none
def spec_l21Head_enc (y : Bool) : Res T := ⟨[vR T 4 y], []⟩
theorem spec_l21Head_de (res : Res T) (y : Bool) (h : spec_l21Head_dec res = some y) : res = spec_l21Head_enc y := by
  obtain ⟨rets, outs⟩ := res
  unfold spec_l21Head_dec at h
  dsimp only at h
  split at h
  · obtain ⟨r0, h0, h⟩ := Option.bind_eq_some_iff.1 h
    cases h
    rw [retV_eq ok h0]
    rfl
  · cases h
def spec_l21Mark_dec (res : Res T) : Option Bool := match res.rets, res.outs with
  | [a0], [] => (retV (T := T) 4 a0).bind fun r0 => some (r0)
  | _, _ => none
def spec_l21Mark_enc (y : Bool) : Res T := ⟨[vR T 4 y], []⟩
theorem spec_l21Mark_de (res : Res T) (y : Bool) (h : spec_l21Mark_dec res = some y) : res = spec_l21Mark_enc y := by
  obtain ⟨rets, outs⟩ := res
  unfold spec_l21Mark_dec at h
  dsimp only at h
  split at h
  · obtain ⟨r0, h0, h⟩ := Option.bind_eq_some_iff.1 h
    cases h
    rw [retV_eq ok h0]
    rfl
  · cases h
def spec_ReadSegs_dec (res : Res T) : Option (List SSeg × Int × Int) := match res.rets, res.outs with
  | [a0, a1, a2], [] => (retV (T := T) 89 a0).bind fun r0 => (retV (T := T) 3 a1).bind fun r1 => (retV (T := T) 3 a2).bind fun r2 => some (r0, r1, r2)
  | _, _ => none
def spec_ReadSegs_enc (y : List SSeg × Int × Int) : Res T := ⟨[vR T 89 y.1, vR T 3 y.2.1, vR T 3 y.2.2], []⟩
theorem spec_ReadSegs_de (res : Res T) (y : List SSeg × Int × Int) (h : spec_ReadSegs_dec res = some y) : res = spec_ReadSegs_enc y := by
  obtain ⟨rets, outs⟩ := res
  unfold spec_ReadSegs_dec at h
  dsimp only at h
  split at h
  · obtain ⟨r0, h0, h⟩ := Option.bind_eq_some_iff.1 h
    obtain ⟨r1, h1, h⟩ := Option.bind_eq_some_iff.1 h
    obtain ⟨r2, h2, h⟩ := Option.bind_eq_some_iff.1 h
    cases h
    rw [retV_eq ok h0, retV_eq ok h1, retV_eq ok h2]
    rfl
  · cases h
def impl_capital_dec (res : Res T) : Option Bool := match res.rets, res.outs with
  | [a0], [] => (retV (T := T) 4 a0).bind fun r0 => some (r0)
  | _, _ => none
def impl_capital_enc (y : Bool) : Res T := ⟨[vR T 4 y], []⟩
theorem impl_capital_de (res : Res T) (y : Bool) (h : impl_capital_dec res = some y) : res = impl_capital_enc y := by
  obtain ⟨rets, outs⟩ := res
  unfold impl_capital_dec at h
  dsimp only at h
  split at h
  · obtain ⟨r0, h0, h⟩ := Option.bind_eq_some_iff.1 h
    cases h
    rw [retV_eq ok h0]
    rfl
  · cases h
def impl_ReadSegs_1_dec (res : Res T) : Option (SSeg × List Int) := match res.rets, res.outs with
  | [], [b0, b1] => (outV (T := T) 100 b0).bind fun r0 => (outV (T := T) 34 b1).bind fun r1 => some (r0, r1)
  | _, _ => none
def impl_ReadSegs_1_enc (y : SSeg × List Int) : Res T := ⟨[], [.var 100 y.1, .var 34 y.2]⟩
theorem impl_ReadSegs_1_de (res : Res T) (y : SSeg × List Int) (h : impl_ReadSegs_1_dec res = some y) : res = impl_ReadSegs_1_enc y := by
  obtain ⟨rets, outs⟩ := res
  unfold impl_ReadSegs_1_dec at h
  dsimp only at h
  split at h
  · obtain ⟨r0, h0, h⟩ := Option.bind_eq_some_iff.1 h
    obtain ⟨r1, h1, h⟩ := Option.bind_eq_some_iff.1 h
    cases h
    rw [outV_eq h0, outV_eq h1]
    rfl
  · cases h
def impl_plain_dec (res : Res T) : Option Bool := match res.rets, res.outs with
  | [a0], [] => (retV (T := T) 4 a0).bind fun r0 => some (r0)
  | _, _ => none
def impl_plain_enc (y : Bool) : Res T := ⟨[vR T 4 y], []⟩
theorem impl_plain_de (res : Res T) (y : Bool) (h : impl_plain_dec res = some y) : res = impl_plain_enc y := by
  obtain ⟨rets, outs⟩ := res
  unfold impl_plain_dec at h
  dsimp only at h
  split at h
  · obtain ⟨r0, h0, h⟩ := Option.bind_eq_some_iff.1 h
    cases h
    rw [retV_eq ok h0]
    rfl
  · cases h
def impl_marked_dec (res : Res T) : Option Bool := match res.rets, res.outs with
  | [a0], [] => (retV (T := T) 4 a0).bind fun r0 => some (r0)
  | _, _ => none
def impl_marked_enc (y : Bool) : Res T := ⟨[vR T 4 y], []⟩
theorem impl_marked_de (res : Res T) (y : Bool) (h : impl_marked_dec res = some y) : res = impl_marked_enc y := by
  obtain ⟨rets, outs⟩ := res
  unfold impl_marked_dec at h
  dsimp only at h
  split at h
  · obtain ⟨r0, h0, h⟩ := Option.bind_eq_some_iff.1 h
    cases h
    rw [retV_eq ok h0]
    rfl
  · cases h
def impl_own_string_dec (res : Res T) : Option (List ByteArray) := match res.rets, res.outs with
  | [a0], [] => (retV (T := T) 82 a0).bind fun r0 => some (r0)
  | _, _ => none
def impl_own_string_enc (y : List ByteArray) : Res T := ⟨[vR T 82 y], []⟩
theorem impl_own_string_de (res : Res T) (y : List ByteArray) (h : impl_own_string_dec res = some y) : res = impl_own_string_enc y := by
  obtain ⟨rets, outs⟩ := res
  unfold impl_own_string_dec at h
  dsimp only at h
  split at h
  · obtain ⟨r0, h0, h⟩ := Option.bind_eq_some_iff.1 h
    cases h
    rw [retV_eq ok h0]
    rfl
  · cases h
def impl_own_string_f142_dec (res : Res T) : Option (List (List ByteArray)) := match res.rets, res.outs with
  | [a0], [] => (retV (T := T) 98 a0).bind fun r0 => some (r0)
  | _, _ => none
def impl_own_string_f142_enc (y : List (List ByteArray)) : Res T := ⟨[vR T 98 y], []⟩
theorem impl_own_string_f142_de (res : Res T) (y : List (List ByteArray)) (h : impl_own_string_f142_dec res = some y) : res = impl_own_string_f142_enc y := by
  obtain ⟨rets, outs⟩ := res
  unfold impl_own_string_f142_dec at h
  dsimp only at h
  split at h
  · obtain ⟨r0, h0, h⟩ := Option.bind_eq_some_iff.1 h
    cases h
    rw [retV_eq ok h0]
    rfl
  · cases h
def impl_own_impl_Seg_dec (res : Res T) : Option (List SSeg) := match res.rets, res.outs with
  | [a0], [] => (retV (T := T) 89 a0).bind fun r0 => some (r0)
  | _, _ => none
def impl_own_impl_Seg_enc (y : List SSeg) : Res T := ⟨[vR T 89 y], []⟩
theorem impl_own_impl_Seg_de (res : Res T) (y : List SSeg) (h : impl_own_impl_Seg_dec res = some y) : res = impl_own_impl_Seg_enc y := by
  obtain ⟨rets, outs⟩ := res
  unfold impl_own_impl_Seg_dec at h
  dsimp only at h
  split at h
  · obtain ⟨r0, h0, h⟩ := Option.bind_eq_some_iff.1 h
    cases h
    rw [retV_eq ok h0]
    rfl
  · cases h
def impl_ReadSegs_dec (res : Res T) : Option (List SSeg × Int × Int) := match res.rets, res.outs with
  | [a0, a1, a2], [] => (retV (T := T) 89 a0).bind fun r0 => (retV (T := T) 3 a1).bind fun r1 => (retV (T := T) 3 a2).bind fun r2 => some (r0, r1, r2)
  | _, _ => none
def impl_ReadSegs_enc (y : List SSeg × Int × Int) : Res T := ⟨[vR T 89 y.1, vR T 3 y.2.1, vR T 3 y.2.2], []⟩
theorem impl_ReadSegs_de (res : Res T) (y : List SSeg × Int × Int) (h : impl_ReadSegs_dec res = some y) : res = impl_ReadSegs_enc y := by
  obtain ⟨rets, outs⟩ := res
  unfold impl_ReadSegs_dec at h
  dsimp only at h
  split at h
  · obtain ⟨r0, h0, h⟩ := Option.bind_eq_some_iff.1 h
    obtain ⟨r1, h1, h⟩ := Option.bind_eq_some_iff.1 h
    obtain ⟨r2, h2, h⟩ := Option.bind_eq_some_iff.1 h
    cases h
    rw [retV_eq ok h0, retV_eq ok h1, retV_eq ok h2]
    rfl
  · cases h
def laws_eqStringS_dec (res : Res T) : Option Bool := match res.rets, res.outs with
  | [a0], [] => (retV (T := T) 4 a0).bind fun r0 => some (r0)
  | _, _ => none
def laws_eqStringS_enc (y : Bool) : Res T := ⟨[vR T 4 y], []⟩
theorem laws_eqStringS_de (res : Res T) (y : Bool) (h : laws_eqStringS_dec res = some y) : res = laws_eqStringS_enc y := by
  obtain ⟨rets, outs⟩ := res
  unfold laws_eqStringS_dec at h
  dsimp only at h
  split at h
  · obtain ⟨r0, h0, h⟩ := Option.bind_eq_some_iff.1 h
    cases h
    rw [retV_eq ok h0]
    rfl
  · cases h
def laws_eqStringSS_dec (res : Res T) : Option Bool := match res.rets, res.outs with
  | [a0], [] => (retV (T := T) 4 a0).bind fun r0 => some (r0)
  | _, _ => none
def laws_eqStringSS_enc (y : Bool) : Res T := ⟨[vR T 4 y], []⟩
theorem laws_eqStringSS_de (res : Res T) (y : Bool) (h : laws_eqStringSS_dec res = some y) : res = laws_eqStringSS_enc y := by
  obtain ⟨rets, outs⟩ := res
  unfold laws_eqStringSS_dec at h
  dsimp only at h
  split at h
  · obtain ⟨r0, h0, h⟩ := Option.bind_eq_some_iff.1 h
    cases h
    rw [retV_eq ok h0]
    rfl
  · cases h
def laws_eqSeg_dec (res : Res T) : Option Bool := match res.rets, res.outs with
  | [a0], [] => (retV (T := T) 4 a0).bind fun r0 => some (r0)
  | _, _ => none
def laws_eqSeg_enc (y : Bool) : Res T := ⟨[vR T 4 y], []⟩
theorem laws_eqSeg_de (res : Res T) (y : Bool) (h : laws_eqSeg_dec res = some y) : res = laws_eqSeg_enc y := by
  obtain ⟨rets, outs⟩ := res
  unfold laws_eqSeg_dec at h
  dsimp only at h
  split at h
  · obtain ⟨r0, h0, h⟩ := Option.bind_eq_some_iff.1 h
    cases h
    rw [retV_eq ok h0]
    rfl
  · cases h
def laws_eqSegS_dec (res : Res T) : Option Bool := match res.rets, res.outs with
  | [a0], [] => (retV (T := T) 4 a0).bind fun r0 => some (r0)
  | _, _ => none
def laws_eqSegS_enc (y : Bool) : Res T := ⟨[vR T 4 y], []⟩
theorem laws_eqSegS_de (res : Res T) (y : Bool) (h : laws_eqSegS_dec res = some y) : res = laws_eqSegS_enc y := by
  obtain ⟨rets, outs⟩ := res
  unfold laws_eqSegS_dec at h
  dsimp only at h
  split at h
  · obtain ⟨r0, h0, h⟩ := Option.bind_eq_some_iff.1 h
    cases h
    rw [retV_eq ok h0]
    rfl
  · cases h
def laws_markText_dec (res : Res T) : Option ByteArray := match res.rets, res.outs with
  | [a0], [] => (retV (T := T) 9 a0).bind fun r0 => some (r0)
  | _, _ => none
def laws_markText_enc (y : ByteArray) : Res T := ⟨[vR T 9 y], []⟩
theorem laws_markText_de (res : Res T) (y : ByteArray) (h : laws_markText_dec res = some y) : res = laws_markText_enc y := by
  obtain ⟨rets, outs⟩ := res
  unfold laws_markText_dec at h
  dsimp only at h
  split at h
  · obtain ⟨r0, h0, h⟩ := Option.bind_eq_some_iff.1 h
    cases h
    rw [retV_eq ok h0]
    rfl
  · cases h
def laws_markStringS_dec (res : Res T) : Option (Int × List ByteArray) := match res.rets, res.outs with
  | [a0], [b0] => (retV (T := T) 3 a0).bind fun r0 => (outS (T := T) 9 b0).bind fun r1 => some (r0, r1)
  | _, _ => none
def laws_markStringS_enc (y : Int × List ByteArray) : Res T := ⟨[vR T 3 y.1], [.sl 9 y.2]⟩
theorem laws_markStringS_de (res : Res T) (y : Int × List ByteArray) (h : laws_markStringS_dec res = some y) : res = laws_markStringS_enc y := by
  obtain ⟨rets, outs⟩ := res
  unfold laws_markStringS_dec at h
  dsimp only at h
  split at h
  · obtain ⟨r0, h0, h⟩ := Option.bind_eq_some_iff.1 h
    obtain ⟨r1, h1, h⟩ := Option.bind_eq_some_iff.1 h
    cases h
    rw [retV_eq ok h0, outS_eq h1]
    rfl
  · cases h
def laws_markStringSS_dec (res : Res T) : Option (Int × List (List ByteArray)) := match res.rets, res.outs with
  | [a0], [b0] => (retV (T := T) 3 a0).bind fun r0 => (outS (T := T) 82 b0).bind fun r1 => some (r0, r1)
  | _, _ => none
def laws_markStringSS_enc (y : Int × List (List ByteArray)) : Res T := ⟨[vR T 3 y.1], [.sl 82 y.2]⟩
theorem laws_markStringSS_de (res : Res T) (y : Int × List (List ByteArray)) (h : laws_markStringSS_dec res = some y) : res = laws_markStringSS_enc y := by
  obtain ⟨rets, outs⟩ := res
  unfold laws_markStringSS_dec at h
  dsimp only at h
  split at h
  · obtain ⟨r0, h0, h⟩ := Option.bind_eq_some_iff.1 h
    obtain ⟨r1, h1, h⟩ := Option.bind_eq_some_iff.1 h
    cases h
    rw [retV_eq ok h0, outS_eq h1]
    rfl
  · cases h
def laws_markSegS_dec (res : Res T) : Option (Int × List SSeg) := match res.rets, res.outs with
  | [a0], [b0] => (retV (T := T) 3 a0).bind fun r0 => (outS (T := T) 100 b0).bind fun r1 => some (r0, r1)
  | _, _ => none
def laws_markSegS_enc (y : Int × List SSeg) : Res T := ⟨[vR T 3 y.1], [.sl 100 y.2]⟩
theorem laws_markSegS_de (res : Res T) (y : Int × List SSeg) (h : laws_markSegS_dec res = some y) : res = laws_markSegS_enc y := by
  obtain ⟨rets, outs⟩ := res
  unfold laws_markSegS_dec at h
  dsimp only at h
  split at h
  · obtain ⟨r0, h0, h⟩ := Option.bind_eq_some_iff.1 h
    obtain ⟨r1, h1, h⟩ := Option.bind_eq_some_iff.1 h
    cases h
    rw [retV_eq ok h0, outS_eq h1]
    rfl
  · cases h
def laws_heldStringS_dec (res : Res T) : Option Int := match res.rets, res.outs with
  | [a0], [] => (retV (T := T) 3 a0).bind fun r0 => some (r0)
  | _, _ => none
def laws_heldStringS_enc (y : Int) : Res T := ⟨[vR T 3 y], []⟩
theorem laws_heldStringS_de (res : Res T) (y : Int) (h : laws_heldStringS_dec res = some y) : res = laws_heldStringS_enc y := by
  obtain ⟨rets, outs⟩ := res
  unfold laws_heldStringS_dec at h
  dsimp only at h
  split at h
  · obtain ⟨r0, h0, h⟩ := Option.bind_eq_some_iff.1 h
    cases h
    rw [retV_eq ok h0]
    rfl
  · cases h
def laws_heldStringSS_dec (res : Res T) : Option Int := match res.rets, res.outs with
  | [a0], [] => (retV (T := T) 3 a0).bind fun r0 => some (r0)
  | _, _ => none
def laws_heldStringSS_enc (y : Int) : Res T := ⟨[vR T 3 y], []⟩
theorem laws_heldStringSS_de (res : Res T) (y : Int) (h : laws_heldStringSS_dec res = some y) : res = laws_heldStringSS_enc y := by
  obtain ⟨rets, outs⟩ := res
  unfold laws_heldStringSS_dec at h
  dsimp only at h
  split at h
  · obtain ⟨r0, h0, h⟩ := Option.bind_eq_some_iff.1 h
    cases h
    rw [retV_eq ok h0]
    rfl
  · cases h
def laws_heldSegS_dec (res : Res T) : Option Int := match res.rets, res.outs with
  | [a0], [] => (retV (T := T) 3 a0).bind fun r0 => some (r0)
  | _, _ => none
def laws_heldSegS_enc (y : Int) : Res T := ⟨[vR T 3 y], []⟩
theorem laws_heldSegS_de (res : Res T) (y : Int) (h : laws_heldSegS_dec res = some y) : res = laws_heldSegS_enc y := by
  obtain ⟨rets, outs⟩ := res
  unfold laws_heldSegS_dec at h
  dsimp only at h
  split at h
  · obtain ⟨r0, h0, h⟩ := Option.bind_eq_some_iff.1 h
    cases h
    rw [retV_eq ok h0]
    rfl
  · cases h
def laws_FnExactReadSegs_dec (res : Res T) : Option Bool := match res.rets, res.outs with
  | [a0], [] => (retV (T := T) 4 a0).bind fun r0 => some (r0)
  | _, _ => none
def laws_FnExactReadSegs_enc (y : Bool) : Res T := ⟨[vR T 4 y], []⟩
theorem laws_FnExactReadSegs_de (res : Res T) (y : Bool) (h : laws_FnExactReadSegs_dec res = some y) : res = laws_FnExactReadSegs_enc y := by
  obtain ⟨rets, outs⟩ := res
  unfold laws_FnExactReadSegs_dec at h
  dsimp only at h
  split at h
  · obtain ⟨r0, h0, h⟩ := Option.bind_eq_some_iff.1 h
    cases h
    rw [retV_eq ok h0]
    rfl
  · cases h
def spec_l1In_D (n : Nat) (r0 : List (A T)) : Option Bool := ocons r0 fun a0 r1 => ocons r1 fun a1 r2 => ocons r2 fun a2 r3 => onil r3 (obind (argV (T := T) 3 a0) fun x0 => obind (argV (T := T) 3 a1) fun a1 => obind (argV (T := T) 3 a2) fun b2 => spec_l1In n x0 a1 b2)
def spec_l1In_ent (n : Nat) : Ent T := ⟨73, 0, [], Bool, spec_l1In_D n, spec_l1In_enc⟩
def spec_l21Head_D (n : Nat) (r0 : List (A T)) : Option Bool := ocons r0 fun a0 r1 => ocons r1 fun a1 r2 => onil r2 (obind (argV (T := T) 9 a0) fun text0 => obind (argV (T := T) 3 a1) fun at1 => spec_l21Head n text0 at1)
def spec_l21Head_ent (n : Nat) : Ent T := ⟨135, 1, [], Bool, spec_l21Head_D n, spec_l21Head_enc⟩
def spec_l21Mark_D (n : Nat) (r0 : List (A T)) : Option Bool := ocons r0 fun a0 r1 => onil r1 (obind (argV (T := T) 5 a0) fun b0 => spec_l21Mark n b0)
def spec_l21Mark_ent (n : Nat) : Ent T := ⟨136, 2, [], Bool, spec_l21Mark_D n, spec_l21Mark_enc⟩
def spec_ReadSegs_D (n : Nat) (r0 : List (A T)) : Option (List SSeg × Int × Int) := ocons r0 fun a0 r1 => onil r1 (obind (argV (T := T) 9 a0) fun text0 => spec_ReadSegs n text0)
def spec_ReadSegs_ent (n : Nat) : Ent T := ⟨53, 3, [], List SSeg × Int × Int, spec_ReadSegs_D n, spec_ReadSegs_enc⟩
def impl_capital_D (n : Nat) (r0 : List (A T)) : Option Bool := ocons r0 fun a0 r1 => onil r1 (obind (argV (T := T) 5 a0) fun c0 => impl_capital n c0)
def impl_capital_ent (n : Nat) : Ent T := ⟨137, 4, [], Bool, impl_capital_D n, impl_capital_enc⟩
def impl_ReadSegs_1_D (n : Nat) (r0 : List (A T)) : Option (SSeg × List Int) := ocons r0 fun a0 r1 => ocons r1 fun a1 r2 => onil r2 (obind (argP (T := T) 100 a0) fun a0 => obind (argP (T := T) 34 a1) fun a1 => impl_ReadSegs_1 n a0 a1)
def impl_ReadSegs_1_ent (n : Nat) : Ent T := ⟨138, 5, [], SSeg × List Int, impl_ReadSegs_1_D n, impl_ReadSegs_1_enc⟩
def impl_plain_D (n : Nat) (r0 : List (A T)) : Option Bool := ocons r0 fun a0 r1 => onil r1 (obind (argV (T := T) 5 a0) fun c0 => impl_plain n c0)
def impl_plain_ent (n : Nat) : Ent T := ⟨139, 6, [], Bool, impl_plain_D n, impl_plain_enc⟩
def impl_marked_D (n : Nat) (r0 : List (A T)) : Option Bool := ocons r0 fun a0 r1 => onil r1 (obind (argV (T := T) 5 a0) fun c0 => impl_marked n c0)
def impl_marked_ent (n : Nat) : Ent T := ⟨140, 7, [], Bool, impl_marked_D n, impl_marked_enc⟩
def impl_own_string_D (n : Nat) (r0 : List (A T)) : Option (List ByteArray) := ocons r0 fun a0 r1 => onil r1 (obind (argV (T := T) 82 a0) fun l0 => impl_own_string n l0)
def impl_own_string_ent (n : Nat) : Ent T := ⟨141, 8, [], List ByteArray, impl_own_string_D n, impl_own_string_enc⟩
def impl_own_string_f142_D (n : Nat) (r0 : List (A T)) : Option (List (List ByteArray)) := ocons r0 fun a0 r1 => onil r1 (obind (argV (T := T) 98 a0) fun l0 => impl_own_string_f142 n l0)
def impl_own_string_f142_ent (n : Nat) : Ent T := ⟨142, 9, [], List (List ByteArray), impl_own_string_f142_D n, impl_own_string_f142_enc⟩
def impl_own_impl_Seg_D (n : Nat) (r0 : List (A T)) : Option (List SSeg) := ocons r0 fun a0 r1 => onil r1 (obind (argV (T := T) 89 a0) fun l0 => impl_own_impl_Seg n l0)
def impl_own_impl_Seg_ent (n : Nat) : Ent T := ⟨143, 10, [], List SSeg, impl_own_impl_Seg_D n, impl_own_impl_Seg_enc⟩
def impl_ReadSegs_D (n : Nat) (r0 : List (A T)) : Option (List SSeg × Int × Int) := ocons r0 fun a0 r1 => onil r1 (obind (argV (T := T) 9 a0) fun text0 => impl_ReadSegs n text0)
def impl_ReadSegs_ent (n : Nat) : Ent T := ⟨54, 11, [], List SSeg × Int × Int, impl_ReadSegs_D n, impl_ReadSegs_enc⟩
def laws_eqStringS_D (n : Nat) (r0 : List (A T)) : Option Bool := ocons r0 fun a0 r1 => ocons r1 fun a1 r2 => onil r2 (obind (argV (T := T) 82 a0) fun a0 => obind (argV (T := T) 82 a1) fun b1 => laws_eqStringS n a0 b1)
def laws_eqStringS_ent (n : Nat) : Ent T := ⟨231, 12, [], Bool, laws_eqStringS_D n, laws_eqStringS_enc⟩
def laws_eqStringSS_D (n : Nat) (r0 : List (A T)) : Option Bool := ocons r0 fun a0 r1 => ocons r1 fun a1 r2 => onil r2 (obind (argV (T := T) 98 a0) fun a0 => obind (argV (T := T) 98 a1) fun b1 => laws_eqStringSS n a0 b1)
def laws_eqStringSS_ent (n : Nat) : Ent T := ⟨191, 13, [], Bool, laws_eqStringSS_D n, laws_eqStringSS_enc⟩
def laws_eqSeg_D (n : Nat) (r0 : List (A T)) : Option Bool := ocons r0 fun a0 r1 => ocons r1 fun a1 r2 => onil r2 (obind (argV (T := T) 100 a0) fun a0 => obind (argV (T := T) 100 a1) fun b1 => laws_eqSeg n a0 b1)
def laws_eqSeg_ent (n : Nat) : Ent T := ⟨144, 14, [], Bool, laws_eqSeg_D n, laws_eqSeg_enc⟩
def laws_eqSegS_D (n : Nat) (r0 : List (A T)) : Option Bool := ocons r0 fun a0 r1 => ocons r1 fun a1 r2 => onil r2 (obind (argV (T := T) 89 a0) fun a0 => obind (argV (T := T) 89 a1) fun b1 => laws_eqSegS n a0 b1)
def laws_eqSegS_ent (n : Nat) : Ent T := ⟨55, 15, [], Bool, laws_eqSegS_D n, laws_eqSegS_enc⟩
def laws_markText_D (n : Nat) (r0 : List (A T)) : Option ByteArray := ocons r0 fun a0 r1 => onil r1 (obind (argV (T := T) 3 a0) fun k0 => laws_markText n k0)
def laws_markText_ent (n : Nat) : Ent T := ⟨145, 16, [], ByteArray, laws_markText_D n, laws_markText_enc⟩
def laws_markStringS_D (n : Nat) (r0 : List (A T)) : Option (Int × List ByteArray) := ocons r0 fun a0 r1 => ocons r1 fun a1 r2 => onil r2 (obind (argV (T := T) 82 a0) fun a0 => obind (argV (T := T) 3 a1) fun k1 => laws_markStringS n a0 k1)
def laws_markStringS_ent (n : Nat) : Ent T := ⟨186, 17, [], Int × List ByteArray, laws_markStringS_D n, laws_markStringS_enc⟩
def laws_markStringSS_D (n : Nat) (r0 : List (A T)) : Option (Int × List (List ByteArray)) := ocons r0 fun a0 r1 => ocons r1 fun a1 r2 => onil r2 (obind (argV (T := T) 98 a0) fun a0 => obind (argV (T := T) 3 a1) fun k1 => laws_markStringSS n a0 k1)
def laws_markStringSS_ent (n : Nat) : Ent T := ⟨146, 18, [], Int × List (List ByteArray), laws_markStringSS_D n, laws_markStringSS_enc⟩
def laws_markSegS_D (n : Nat) (r0 : List (A T)) : Option (Int × List SSeg) := ocons r0 fun a0 r1 => ocons r1 fun a1 r2 => onil r2 (obind (argV (T := T) 89 a0) fun a0 => obind (argV (T := T) 3 a1) fun k1 => laws_markSegS n a0 k1)
def laws_markSegS_ent (n : Nat) : Ent T := ⟨56, 19, [], Int × List SSeg, laws_markSegS_D n, laws_markSegS_enc⟩
def laws_heldStringS_D (n : Nat) (r0 : List (A T)) : Option Int := ocons r0 fun a0 r1 => ocons r1 fun a1 r2 => onil r2 (obind (argV (T := T) 82 a0) fun a0 => obind (argV (T := T) 3 a1) fun k1 => laws_heldStringS n a0 k1)
def laws_heldStringS_ent (n : Nat) : Ent T := ⟨187, 20, [], Int, laws_heldStringS_D n, laws_heldStringS_enc⟩
def laws_heldStringSS_D (n : Nat) (r0 : List (A T)) : Option Int := ocons r0 fun a0 r1 => ocons r1 fun a1 r2 => onil r2 (obind (argV (T := T) 98 a0) fun a0 => obind (argV (T := T) 3 a1) fun k1 => laws_heldStringSS n a0 k1)
def laws_heldStringSS_ent (n : Nat) : Ent T := ⟨147, 21, [], Int, laws_heldStringSS_D n, laws_heldStringSS_enc⟩
def laws_heldSegS_D (n : Nat) (r0 : List (A T)) : Option Int := ocons r0 fun a0 r1 => ocons r1 fun a1 r2 => onil r2 (obind (argV (T := T) 89 a0) fun a0 => obind (argV (T := T) 3 a1) fun k1 => laws_heldSegS n a0 k1)
def laws_heldSegS_ent (n : Nat) : Ent T := ⟨57, 22, [], Int, laws_heldSegS_D n, laws_heldSegS_enc⟩
def laws_FnExactReadSegs_D (n : Nat) (r0 : List (A T)) : Option Bool := ocons r0 fun a0 r1 => onil r1 (obind (argV (T := T) 9 a0) fun aText0 => laws_FnExactReadSegs n aText0)
def laws_FnExactReadSegs_ent (n : Nat) : Ent T := ⟨9, 23, [], Bool, laws_FnExactReadSegs_D n, laws_FnExactReadSegs_enc⟩
def ents (n : Nat) : List (Ent T) := [spec_l1In_ent n, spec_l21Head_ent n, spec_l21Mark_ent n, spec_ReadSegs_ent n, impl_capital_ent n, impl_ReadSegs_1_ent n, impl_plain_ent n, impl_marked_ent n, impl_own_string_ent n, impl_own_string_f142_ent n, impl_own_impl_Seg_ent n, impl_ReadSegs_ent n, laws_eqStringS_ent n, laws_eqStringSS_ent n, laws_eqSeg_ent n, laws_eqSegS_ent n, laws_markText_ent n, laws_markStringS_ent n, laws_markStringSS_ent n, laws_markSegS_ent n, laws_heldStringS_ent n, laws_heldStringSS_ent n, laws_heldSegS_ent n, laws_FnExactReadSegs_ent n]
abbrev Phi (n i : Nat) {R : Type} (f : Nat) (ar : List (A T)) (K : Res T → Option R) : Option R := PhiE (ents n) i f ar K
theorem mixed : Try.prog.follows .mixedOrders = true := by kernel_rfl
noncomputable def spec_l1In_code : Code := match Try.f73.body with | some c => c | none => .skip
def spec_l1In_ann : Ann := fun id => none
def spec_l1In_Ls (n : Nat) : Nat → Option (LSpec T) := fun id => none
theorem spec_l1In_tie (n : Nat) (x0 : Int) (a1 : Int) (b2 : Int) : evF (T := T) (Phi n 0) (spec_l1In_Ls n) spec_l1In_ann n Try.f73 (sg 73) [vA T 3 x0, vA T 3 a1, vA T 3 b2] spec_l1In_dec = spec_l1In n x0 a1 b2 := by kernel_rfl
theorem spec_l1In_lo (n : Nat) : LoopsOk (T := T) (Phi n 0) (spec_l1In_Ls n) spec_l1In_ann n spec_l1In_code := loopsOk_all (cs := []) (by kernel_rfl) trivial
theorem spec_l1In_ok (n : Nat) : EntOk Try.prog (ents n) (spec_l1In_ent n) := by
  intro hs ar y hg h
  replace h : spec_l1In_D n ar = some y := h
  unfold spec_l1In_D at h
  replace h := ocons_some h
  obtain ⟨a0, r0, rfl, h⟩ := h
  replace h := ocons_some h
  obtain ⟨a1, r1, rfl, h⟩ := h
  replace h := ocons_some h
  obtain ⟨a2, r2, rfl, h⟩ := h
  replace h := onil_some h
  obtain ⟨rfl, h⟩ := h
  obtain ⟨x0, qh0, h⟩ := obind_some h
  obtain ⟨a1, qh1, h⟩ := obind_some h
  obtain ⟨b2, qh2, h⟩ := obind_some h
  rw [argV_eq ok qh0, argV_eq ok qh1, argV_eq ok qh2]
  exact call_of (phiE_nat _ _) hs ok mixed Try.func73 (c := spec_l1In_code) (by kernel_rfl) (spec_l1In_lo n) (by kernel_rfl) (by kernel_rfl) (by kernel_rfl) spec_l1In_de ((spec_l1In_tie n x0 a1 b2).trans h)
noncomputable def spec_l21Head_code : Code := match Try.f135.body with | some c => c | none => .skip
def spec_l21Head_4_sv : List Sv := [.one (.str), .one (.int .i64), .one (.int .i64)]
def spec_l21Head_4_so : List So := []
def spec_l21Head_4_emb (c : ByteArray × Int) (x : Int) : EVs T spec_l21Head_4_sv × EOs T spec_l21Head_4_so := ((c.1, c.2, x, ()), ())
def spec_l21Head_4_prj (y : EVs T spec_l21Head_4_sv × EOs T spec_l21Head_4_so) : (ByteArray × Int) × Int := ((y.1.1, y.1.2.1), (y.1.2.2.1))
def spec_l21Head_4_b (n : Nat) {R : Type} (K : Ex → Sm.St T → Option R) (c : ByteArray × Int) (x : Int) (J : Int → Option R) : Option R :=
  spec_l21Head_L4 n (K (.exit 0) (stOf (T := T) [0, 1] [] [.one (.str), .one (.int .i64)] [] (c.1, c.2, ()) ())) (fun (y0 : Bool) => K .ret (stOf (T := T) [4] [] [.one (.bool)] [] (y0, ()) ())) J c.1 c.2 x
def spec_l21Head_4_sp (n : Nat) : LSpec T := mkSpec T ⟨[], [0, 1, 5], []⟩ spec_l21Head_4_sv spec_l21Head_4_so (ByteArray × Int) (Int) spec_l21Head_4_emb spec_l21Head_4_prj (spec_l21Head_4_b n)
noncomputable def spec_l21Head_4_c : Code := ((loopCodes spec_l21Head_code)[0]?).getD .skip
def spec_l21Head_ann : Ann := fun id => bif Nat.beq id 3000004 then some ⟨[], [0, 1], []⟩ else bif Nat.beq id 2000004 then some ⟨[], [4], []⟩ else none
def spec_l21Head_Ls (n : Nat) : Nat → Option (LSpec T) := fun id => bif Nat.beq id 4 then some (spec_l21Head_4_sp n) else none
theorem spec_l21Head_4_le (n : Nat) : LoopEq (T := T) (Phi n 1) (spec_l21Head_Ls n) spec_l21Head_ann n spec_l21Head_4_c (spec_l21Head_4_sp n) := ⟨mkSpec_dec (fun y => rfl), fun c x => by kernel_rfl, fun K J c x => by kernel_rfl⟩
theorem spec_l21Head_tie (n : Nat) (text0 : ByteArray) (at1 : Int) : evF (T := T) (Phi n 1) (spec_l21Head_Ls n) spec_l21Head_ann n Try.f135 (sg 135) [vA T 9 text0, vA T 3 at1] spec_l21Head_dec = spec_l21Head n text0 at1 := by kernel_rfl
theorem spec_l21Head_lo (n : Nat) : LoopsOk (T := T) (Phi n 1) (spec_l21Head_Ls n) spec_l21Head_ann n spec_l21Head_code := loopsOk_all (cs := [spec_l21Head_4_c]) (by kernel_rfl) ⟨⟨_, by kernel_rfl, spec_l21Head_4_le n⟩, trivial⟩
theorem spec_l21Head_ok (n : Nat) : EntOk Try.prog (ents n) (spec_l21Head_ent n) := by
  intro hs ar y hg h
  replace h : spec_l21Head_D n ar = some y := h
  unfold spec_l21Head_D at h
  replace h := ocons_some h
  obtain ⟨a0, r0, rfl, h⟩ := h
  replace h := ocons_some h
  obtain ⟨a1, r1, rfl, h⟩ := h
  replace h := onil_some h
  obtain ⟨rfl, h⟩ := h
  obtain ⟨text0, qh0, h⟩ := obind_some h
  obtain ⟨at1, qh1, h⟩ := obind_some h
  rw [argV_eq ok qh0, argV_eq ok qh1]
  exact call_of (phiE_nat _ _) hs ok mixed Try.func135 (c := spec_l21Head_code) (by kernel_rfl) (spec_l21Head_lo n) (by kernel_rfl) (by kernel_rfl) (by kernel_rfl) spec_l21Head_de ((spec_l21Head_tie n text0 at1).trans h)
noncomputable def spec_l21Mark_code : Code := match Try.f136.body with | some c => c | none => .skip
def spec_l21Mark_ann : Ann := fun id => none
def spec_l21Mark_Ls (n : Nat) : Nat → Option (LSpec T) := fun id => none
theorem spec_l21Mark_tie (n : Nat) (b0 : Int) : evF (T := T) (Phi n 2) (spec_l21Mark_Ls n) spec_l21Mark_ann n Try.f136 (sg 136) [vA T 5 b0] spec_l21Mark_dec = spec_l21Mark n b0 := by kernel_rfl
theorem spec_l21Mark_lo (n : Nat) : LoopsOk (T := T) (Phi n 2) (spec_l21Mark_Ls n) spec_l21Mark_ann n spec_l21Mark_code := loopsOk_all (cs := []) (by kernel_rfl) trivial
theorem spec_l21Mark_ok (n : Nat) : EntOk Try.prog (ents n) (spec_l21Mark_ent n) := by
  intro hs ar y hg h
  replace h : spec_l21Mark_D n ar = some y := h
  unfold spec_l21Mark_D at h
  replace h := ocons_some h
  obtain ⟨a0, r0, rfl, h⟩ := h
  replace h := onil_some h
  obtain ⟨rfl, h⟩ := h
  obtain ⟨b0, qh0, h⟩ := obind_some h
  rw [argV_eq ok qh0]
  exact call_of (phiE_nat _ _) hs ok mixed Try.func136 (c := spec_l21Mark_code) (by kernel_rfl) (spec_l21Mark_lo n) (by kernel_rfl) (by kernel_rfl) (by kernel_rfl) spec_l21Mark_de ((spec_l21Mark_tie n b0).trans h)
noncomputable def spec_ReadSegs_code : Code := match Try.f53.body with | some c => c | none => .skip
def spec_ReadSegs_5_sv : List Sv := [.one (.str), .one (.own 3000000 100 false), .one (.int .i64)]
def spec_ReadSegs_5_so : List So := [.arr 100 false]
def spec_ReadSegs_5_emb (c : ByteArray) (x : Int × List SSeg) : EVs T spec_ReadSegs_5_sv × EOs T spec_ReadSegs_5_so := ((c, (), x.1, ()), (x.2, ()))
def spec_ReadSegs_5_prj (y : EVs T spec_ReadSegs_5_sv × EOs T spec_ReadSegs_5_so) : ByteArray × (Int × List SSeg) := ((y.1.1), (y.1.2.2.1, y.2.1))
def spec_ReadSegs_5_b (n : Nat) {R : Type} (K : Ex → Sm.St T → Option R) (c : ByteArray) (x : Int × List SSeg) (J : (Int × List SSeg) → Option R) : Option R :=
  spec_ReadSegs_L5 n (fun (y0 : List SSeg) => K (.exit 0) (stOf (T := T) [5] [3000000] [.one (.own 3000000 100 false)] [.arr 100 false] ((), ()) (y0, ()))) (fun (y0 : Int) (y1 : Int) (y2 : List SSeg) => K .ret (stOf (T := T) [2, 3, 4] [3000001] [.one (.own 3000001 100 false), .one (.int .i64), .one (.int .i64)] [.arr 100 false] ((), y0, y1, ()) (y2, ()))) (fun z0 z1 => J (z0, z1)) c x.1 x.2
def spec_ReadSegs_5_sp (n : Nat) : LSpec T := mkSpec T ⟨[((.reg 5), 3000000, 100)], [0, 5, 6], [3000000]⟩ spec_ReadSegs_5_sv spec_ReadSegs_5_so (ByteArray) (Int × List SSeg) spec_ReadSegs_5_emb spec_ReadSegs_5_prj (spec_ReadSegs_5_b n)
noncomputable def spec_ReadSegs_5_c : Code := ((loopCodes spec_ReadSegs_code)[0]?).getD .skip
def spec_ReadSegs_13_sv : List Sv := [.one (.str), .one (.own 3000000 100 false), .one (.int .i64), .one (.ptr 56 0 0), .one (.bool)]
def spec_ReadSegs_13_so : List So := [.arr 100 false, .var [.str, .own 3000002 82 false], .arr 82 false]
def spec_ReadSegs_13_emb (c : ByteArray × List SSeg × ByteArray) (x : Int × Bool × List (List ByteArray)) : EVs T spec_ReadSegs_13_sv × EOs T spec_ReadSegs_13_so := ((c.1, (), x.1, (), x.2.1, ()), (c.2.1, (c.2.2, (), ()), x.2.2, ()))
def spec_ReadSegs_13_prj (y : EVs T spec_ReadSegs_13_sv × EOs T spec_ReadSegs_13_so) : (ByteArray × List SSeg × ByteArray) × (Int × Bool × List (List ByteArray)) := ((y.1.1, y.2.1, y.2.2.1.1), (y.1.2.2.1, y.1.2.2.2.2.1, y.2.2.2.1))
def spec_ReadSegs_13_b (n : Nat) {R : Type} (K : Ex → Sm.St T → Option R) (c : ByteArray × List SSeg × ByteArray) (x : Int × Bool × List (List ByteArray)) (J : (Int × Bool × List (List ByteArray)) → Option R) : Option R :=
  spec_ReadSegs_L13 n (fun (y1 : Int) (y2 : Bool) (y5 : List (List ByteArray)) => K (.exit 2) (stOf (T := T) [0, 5, 6, 7, 8] [3000000, 56, 3000002] [.one (.str), .one (.own 3000000 100 false), .one (.int .i64), .one (.ptr 56 0 0), .one (.bool)] [.arr 100 false, .var [.str, .own 3000002 82 false], .arr 82 false] (c.1, (), y1, (), y2, ()) (c.2.1, (c.2.2, (), ()), y5, ()))) (fun (y0 : Int) (y1 : Int) (y2 : List SSeg) => K .ret (stOf (T := T) [2, 3, 4] [3000001] [.one (.own 3000001 100 false), .one (.int .i64), .one (.int .i64)] [.arr 100 false] ((), y0, y1, ()) (y2, ()))) (fun z0 z1 z2 => J (z0, z1, z2)) c.1 x.1 x.2.1 c.2.1 c.2.2 x.2.2
def spec_ReadSegs_13_sp (n : Nat) : LSpec T := mkSpec T ⟨[((.reg 5), 3000000, 100), ((.cell 56 1), 3000002, 82)], [0, 5, 6, 7, 8], [3000000, 56, 3000002]⟩ spec_ReadSegs_13_sv spec_ReadSegs_13_so (ByteArray × List SSeg × ByteArray) (Int × Bool × List (List ByteArray)) spec_ReadSegs_13_emb spec_ReadSegs_13_prj (spec_ReadSegs_13_b n)
noncomputable def spec_ReadSegs_13_c : Code := ((loopCodes spec_ReadSegs_code)[1]?).getD .skip
def spec_ReadSegs_ann : Ann := fun id => bif Nat.beq id 3000005 then some ⟨[((.reg 5), 3000000, 100)], [5], [3000000]⟩ else bif Nat.beq id 2000005 then some ⟨[((.reg 2), 3000001, 100)], [2, 3, 4], [3000001]⟩ else bif Nat.beq id 5000013 then some ⟨[((.reg 5), 3000000, 100), ((.cell 56 1), 3000002, 82)], [0, 5, 6, 7, 8], [3000000, 56, 3000002]⟩ else bif Nat.beq id 2000013 then some ⟨[((.reg 2), 3000001, 100)], [2, 3, 4], [3000001]⟩ else none
def spec_ReadSegs_Ls (n : Nat) : Nat → Option (LSpec T) := fun id => bif Nat.beq id 5 then some (spec_ReadSegs_5_sp n) else bif Nat.beq id 13 then some (spec_ReadSegs_13_sp n) else none
theorem spec_ReadSegs_5_le (n : Nat) : LoopEq (T := T) (Phi n 3) (spec_ReadSegs_Ls n) spec_ReadSegs_ann n spec_ReadSegs_5_c (spec_ReadSegs_5_sp n) := ⟨mkSpec_dec (fun y => rfl), fun c x => by kernel_rfl, fun K J c x => by kernel_rfl⟩
theorem spec_ReadSegs_13_le (n : Nat) : LoopEq (T := T) (Phi n 3) (spec_ReadSegs_Ls n) spec_ReadSegs_ann n spec_ReadSegs_13_c (spec_ReadSegs_13_sp n) := ⟨mkSpec_dec (fun y => rfl), fun c x => by kernel_rfl, fun K J c x => by kernel_rfl⟩
theorem spec_ReadSegs_tie (n : Nat) (text0 : ByteArray) : evF (T := T) (Phi n 3) (spec_ReadSegs_Ls n) spec_ReadSegs_ann n Try.f53 (sg 53) [vA T 9 text0] spec_ReadSegs_dec = spec_ReadSegs n text0 := by kernel_rfl
theorem spec_ReadSegs_lo (n : Nat) : LoopsOk (T := T) (Phi n 3) (spec_ReadSegs_Ls n) spec_ReadSegs_ann n spec_ReadSegs_code := loopsOk_all (cs := [spec_ReadSegs_5_c, spec_ReadSegs_13_c]) (by kernel_rfl) ⟨⟨_, by kernel_rfl, spec_ReadSegs_5_le n⟩, ⟨_, by kernel_rfl, spec_ReadSegs_13_le n⟩, trivial⟩
theorem spec_ReadSegs_ok (n : Nat) : EntOk Try.prog (ents n) (spec_ReadSegs_ent n) := by
  intro hs ar y hg h
  replace h : spec_ReadSegs_D n ar = some y := h
  unfold spec_ReadSegs_D at h
  replace h := ocons_some h
  obtain ⟨a0, r0, rfl, h⟩ := h
  replace h := onil_some h
  obtain ⟨rfl, h⟩ := h
  obtain ⟨text0, qh0, h⟩ := obind_some h
  rw [argV_eq ok qh0]
  exact call_of (phiE_nat _ _) hs ok mixed Try.func53 (c := spec_ReadSegs_code) (by kernel_rfl) (spec_ReadSegs_lo n) (by kernel_rfl) (by kernel_rfl) (by kernel_rfl) spec_ReadSegs_de ((spec_ReadSegs_tie n text0).trans h)
noncomputable def impl_capital_code : Code := match Try.f137.body with | some c => c | none => .skip
def impl_capital_ann : Ann := fun id => none
def impl_capital_Ls (n : Nat) : Nat → Option (LSpec T) := fun id => none
theorem impl_capital_tie (n : Nat) (c0 : Int) : evF (T := T) (Phi n 4) (impl_capital_Ls n) impl_capital_ann n Try.f137 (sg 137) [vA T 5 c0] impl_capital_dec = impl_capital n c0 := by kernel_rfl
theorem impl_capital_lo (n : Nat) : LoopsOk (T := T) (Phi n 4) (impl_capital_Ls n) impl_capital_ann n impl_capital_code := loopsOk_all (cs := []) (by kernel_rfl) trivial
theorem impl_capital_ok (n : Nat) : EntOk Try.prog (ents n) (impl_capital_ent n) := by
  intro hs ar y hg h
  replace h : impl_capital_D n ar = some y := h
  unfold impl_capital_D at h
  replace h := ocons_some h
  obtain ⟨a0, r0, rfl, h⟩ := h
  replace h := onil_some h
  obtain ⟨rfl, h⟩ := h
  obtain ⟨c0, qh0, h⟩ := obind_some h
  rw [argV_eq ok qh0]
  exact call_of (phiE_nat _ _) hs ok mixed Try.func137 (c := impl_capital_code) (by kernel_rfl) (impl_capital_lo n) (by kernel_rfl) (by kernel_rfl) (by kernel_rfl) impl_capital_de ((impl_capital_tie n c0).trans h)
noncomputable def impl_ReadSegs_1_code : Code := match Try.f138.body with | some c => c | none => .skip
def impl_ReadSegs_1_ann : Ann := fun id => none
def impl_ReadSegs_1_Ls (n : Nat) : Nat → Option (LSpec T) := fun id => none
theorem impl_ReadSegs_1_tie (n : Nat) (a0 : SSeg) (a1 : List Int) : evF (T := T) (Phi n 5) (impl_ReadSegs_1_Ls n) impl_ReadSegs_1_ann n Try.f138 (sg 138) [.ptr 100 a0, .ptr 34 a1] impl_ReadSegs_1_dec = impl_ReadSegs_1 n a0 a1 := by kernel_rfl
theorem impl_ReadSegs_1_lo (n : Nat) : LoopsOk (T := T) (Phi n 5) (impl_ReadSegs_1_Ls n) impl_ReadSegs_1_ann n impl_ReadSegs_1_code := loopsOk_all (cs := []) (by kernel_rfl) trivial
theorem impl_ReadSegs_1_ok (n : Nat) : EntOk Try.prog (ents n) (impl_ReadSegs_1_ent n) := by
  intro hs ar y hg h
  replace h : impl_ReadSegs_1_D n ar = some y := h
  unfold impl_ReadSegs_1_D at h
  replace h := ocons_some h
  obtain ⟨a0, r0, rfl, h⟩ := h
  replace h := ocons_some h
  obtain ⟨a1, r1, rfl, h⟩ := h
  replace h := onil_some h
  obtain ⟨rfl, h⟩ := h
  obtain ⟨a0, qh0, h⟩ := obind_some h
  obtain ⟨a1, qh1, h⟩ := obind_some h
  rw [argP_eq qh0, argP_eq qh1]
  exact call_of (phiE_nat _ _) hs ok mixed Try.func138 (c := impl_ReadSegs_1_code) (by kernel_rfl) (impl_ReadSegs_1_lo n) (by kernel_rfl) (by kernel_rfl) (by kernel_rfl) impl_ReadSegs_1_de ((impl_ReadSegs_1_tie n a0 a1).trans h)
noncomputable def impl_plain_code : Code := match Try.f139.body with | some c => c | none => .skip
def impl_plain_ann : Ann := fun id => none
def impl_plain_Ls (n : Nat) : Nat → Option (LSpec T) := fun id => none
theorem impl_plain_tie (n : Nat) (c0 : Int) : evF (T := T) (Phi n 6) (impl_plain_Ls n) impl_plain_ann n Try.f139 (sg 139) [vA T 5 c0] impl_plain_dec = impl_plain n c0 := by kernel_rfl
theorem impl_plain_lo (n : Nat) : LoopsOk (T := T) (Phi n 6) (impl_plain_Ls n) impl_plain_ann n impl_plain_code := loopsOk_all (cs := []) (by kernel_rfl) trivial
theorem impl_plain_ok (n : Nat) : EntOk Try.prog (ents n) (impl_plain_ent n) := by
  intro hs ar y hg h
  replace h : impl_plain_D n ar = some y := h
  unfold impl_plain_D at h
  replace h := ocons_some h
  obtain ⟨a0, r0, rfl, h⟩ := h
  replace h := onil_some h
  obtain ⟨rfl, h⟩ := h
  obtain ⟨c0, qh0, h⟩ := obind_some h
  rw [argV_eq ok qh0]
  exact call_of (phiE_nat _ _) hs ok mixed Try.func139 (c := impl_plain_code) (by kernel_rfl) (impl_plain_lo n) (by kernel_rfl) (by kernel_rfl) (by kernel_rfl) impl_plain_de ((impl_plain_tie n c0).trans h)
noncomputable def impl_marked_code : Code := match Try.f140.body with | some c => c | none => .skip
def impl_marked_ann : Ann := fun id => none
def impl_marked_Ls (n : Nat) : Nat → Option (LSpec T) := fun id => none
theorem impl_marked_tie (n : Nat) (c0 : Int) : evF (T := T) (Phi n 7) (impl_marked_Ls n) impl_marked_ann n Try.f140 (sg 140) [vA T 5 c0] impl_marked_dec = impl_marked n c0 := by kernel_rfl
theorem impl_marked_lo (n : Nat) : LoopsOk (T := T) (Phi n 7) (impl_marked_Ls n) impl_marked_ann n impl_marked_code := loopsOk_all (cs := []) (by kernel_rfl) trivial
theorem impl_marked_ok (n : Nat) : EntOk Try.prog (ents n) (impl_marked_ent n) := by
  intro hs ar y hg h
  replace h : impl_marked_D n ar = some y := h
  unfold impl_marked_D at h
  replace h := ocons_some h
  obtain ⟨a0, r0, rfl, h⟩ := h
  replace h := onil_some h
  obtain ⟨rfl, h⟩ := h
  obtain ⟨c0, qh0, h⟩ := obind_some h
  rw [argV_eq ok qh0]
  exact call_of (phiE_nat _ _) hs ok mixed Try.func140 (c := impl_marked_code) (by kernel_rfl) (impl_marked_lo n) (by kernel_rfl) (by kernel_rfl) (by kernel_rfl) impl_marked_de ((impl_marked_tie n c0).trans h)
noncomputable def impl_own_string_code : Code := match Try.f141.body with | some c => c | none => .skip
def impl_own_string_ann : Ann := fun id => none
def impl_own_string_Ls (n : Nat) : Nat → Option (LSpec T) := fun id => none
theorem impl_own_string_tie (n : Nat) (l0 : List ByteArray) : evF (T := T) (Phi n 8) (impl_own_string_Ls n) impl_own_string_ann n Try.f141 (sg 141) [vA T 82 l0] impl_own_string_dec = impl_own_string n l0 := by kernel_rfl
theorem impl_own_string_lo (n : Nat) : LoopsOk (T := T) (Phi n 8) (impl_own_string_Ls n) impl_own_string_ann n impl_own_string_code := loopsOk_all (cs := []) (by kernel_rfl) trivial
theorem impl_own_string_ok (n : Nat) : EntOk Try.prog (ents n) (impl_own_string_ent n) := by
  intro hs ar y hg h
  replace h : impl_own_string_D n ar = some y := h
  unfold impl_own_string_D at h
  replace h := ocons_some h
  obtain ⟨a0, r0, rfl, h⟩ := h
  replace h := onil_some h
  obtain ⟨rfl, h⟩ := h
  obtain ⟨l0, qh0, h⟩ := obind_some h
  rw [argV_eq ok qh0]
  exact call_of (phiE_nat _ _) hs ok mixed Try.func141 (c := impl_own_string_code) (by kernel_rfl) (impl_own_string_lo n) (by kernel_rfl) (by kernel_rfl) (by kernel_rfl) impl_own_string_de ((impl_own_string_tie n l0).trans h)
noncomputable def impl_own_string_f142_code : Code := match Try.f142.body with | some c => c | none => .skip
def impl_own_string_f142_ann : Ann := fun id => none
def impl_own_string_f142_Ls (n : Nat) : Nat → Option (LSpec T) := fun id => none
theorem impl_own_string_f142_tie (n : Nat) (l0 : List (List ByteArray)) : evF (T := T) (Phi n 9) (impl_own_string_f142_Ls n) impl_own_string_f142_ann n Try.f142 (sg 142) [vA T 98 l0] impl_own_string_f142_dec = impl_own_string_f142 n l0 := by kernel_rfl
theorem impl_own_string_f142_lo (n : Nat) : LoopsOk (T := T) (Phi n 9) (impl_own_string_f142_Ls n) impl_own_string_f142_ann n impl_own_string_f142_code := loopsOk_all (cs := []) (by kernel_rfl) trivial
theorem impl_own_string_f142_ok (n : Nat) : EntOk Try.prog (ents n) (impl_own_string_f142_ent n) := by
  intro hs ar y hg h
  replace h : impl_own_string_f142_D n ar = some y := h
  unfold impl_own_string_f142_D at h
  replace h := ocons_some h
  obtain ⟨a0, r0, rfl, h⟩ := h
  replace h := onil_some h
  obtain ⟨rfl, h⟩ := h
  obtain ⟨l0, qh0, h⟩ := obind_some h
  rw [argV_eq ok qh0]
  exact call_of (phiE_nat _ _) hs ok mixed Try.func142 (c := impl_own_string_f142_code) (by kernel_rfl) (impl_own_string_f142_lo n) (by kernel_rfl) (by kernel_rfl) (by kernel_rfl) impl_own_string_f142_de ((impl_own_string_f142_tie n l0).trans h)
noncomputable def impl_own_impl_Seg_code : Code := match Try.f143.body with | some c => c | none => .skip
def impl_own_impl_Seg_ann : Ann := fun id => none
def impl_own_impl_Seg_Ls (n : Nat) : Nat → Option (LSpec T) := fun id => none
theorem impl_own_impl_Seg_tie (n : Nat) (l0 : List SSeg) : evF (T := T) (Phi n 10) (impl_own_impl_Seg_Ls n) impl_own_impl_Seg_ann n Try.f143 (sg 143) [vA T 89 l0] impl_own_impl_Seg_dec = impl_own_impl_Seg n l0 := by kernel_rfl
theorem impl_own_impl_Seg_lo (n : Nat) : LoopsOk (T := T) (Phi n 10) (impl_own_impl_Seg_Ls n) impl_own_impl_Seg_ann n impl_own_impl_Seg_code := loopsOk_all (cs := []) (by kernel_rfl) trivial
theorem impl_own_impl_Seg_ok (n : Nat) : EntOk Try.prog (ents n) (impl_own_impl_Seg_ent n) := by
  intro hs ar y hg h
  replace h : impl_own_impl_Seg_D n ar = some y := h
  unfold impl_own_impl_Seg_D at h
  replace h := ocons_some h
  obtain ⟨a0, r0, rfl, h⟩ := h
  replace h := onil_some h
  obtain ⟨rfl, h⟩ := h
  obtain ⟨l0, qh0, h⟩ := obind_some h
  rw [argV_eq ok qh0]
  exact call_of (phiE_nat _ _) hs ok mixed Try.func143 (c := impl_own_impl_Seg_code) (by kernel_rfl) (impl_own_impl_Seg_lo n) (by kernel_rfl) (by kernel_rfl) (by kernel_rfl) impl_own_impl_Seg_de ((impl_own_impl_Seg_tie n l0).trans h)
noncomputable def impl_ReadSegs_code : Code := match Try.f54.body with | some c => c | none => .skip
def impl_ReadSegs_6_sv : List Sv := [.one (.str), .one (.int .i64), .one (.own 3000000 100 false), .one (.int .i64)]
def impl_ReadSegs_6_so : List So := [.arr 100 false]
def impl_ReadSegs_6_emb (c : ByteArray × Int) (x : Int × List SSeg) : EVs T impl_ReadSegs_6_sv × EOs T impl_ReadSegs_6_so := ((c.1, c.2, (), x.1, ()), (x.2, ()))
def impl_ReadSegs_6_prj (y : EVs T impl_ReadSegs_6_sv × EOs T impl_ReadSegs_6_so) : (ByteArray × Int) × (Int × List SSeg) := ((y.1.1, y.1.2.1), (y.1.2.2.2.1, y.2.1))
def impl_ReadSegs_6_b (n : Nat) {R : Type} (K : Ex → Sm.St T → Option R) (c : ByteArray × Int) (x : Int × List SSeg) (J : (Int × List SSeg) → Option R) : Option R :=
  impl_ReadSegs_L6 n (fun (y0 : List SSeg) => K (.exit 0) (stOf (T := T) [6] [3000000] [.one (.own 3000000 100 false)] [.arr 100 false] ((), ()) (y0, ()))) (fun (y0 : Int) (y1 : Int) (y2 : List SSeg) => K .ret (stOf (T := T) [2, 3, 4] [3000001] [.one (.own 3000001 100 false), .one (.int .i64), .one (.int .i64)] [.arr 100 false] ((), y0, y1, ()) (y2, ()))) (fun z0 z1 => J (z0, z1)) c.1 c.2 x.1 x.2
def impl_ReadSegs_6_sp (n : Nat) : LSpec T := mkSpec T ⟨[((.reg 6), 3000000, 100)], [0, 5, 6, 7], [3000000]⟩ impl_ReadSegs_6_sv impl_ReadSegs_6_so (ByteArray × Int) (Int × List SSeg) impl_ReadSegs_6_emb impl_ReadSegs_6_prj (impl_ReadSegs_6_b n)
noncomputable def impl_ReadSegs_6_c : Code := ((loopCodes impl_ReadSegs_code)[0]?).getD .skip
def impl_ReadSegs_16_sv : List Sv := [.one (.str), .one (.int .i64), .one (.own 3000000 100 false), .one (.int .i64), .one (.ptr 64 0 0), .one (.ptr 72 0 0), .one (.fn 138 [64, 72]), .one (.bool)]
def impl_ReadSegs_16_so : List So := [.arr 100 false, .var [.str, .own 3000002 82 false], .arr 82 false, .var [.own 3000003 5 false], .arr 5 false]
def impl_ReadSegs_16_emb (c : ByteArray × Int × List SSeg) (x : Int × Bool × ByteArray × List (List ByteArray) × List Int) : EVs T impl_ReadSegs_16_sv × EOs T impl_ReadSegs_16_so := ((c.1, c.2.1, (), x.1, (), (), (), x.2.1, ()), (c.2.2, (x.2.2.1, (), ()), x.2.2.2.1, ((), ()), x.2.2.2.2, ()))
def impl_ReadSegs_16_prj (y : EVs T impl_ReadSegs_16_sv × EOs T impl_ReadSegs_16_so) : (ByteArray × Int × List SSeg) × (Int × Bool × ByteArray × List (List ByteArray) × List Int) := ((y.1.1, y.1.2.1, y.2.1), (y.1.2.2.2.1, y.1.2.2.2.2.2.2.2.1, y.2.2.1.1, y.2.2.2.1, y.2.2.2.2.2.1))
def impl_ReadSegs_16_b (n : Nat) {R : Type} (K : Ex → Sm.St T → Option R) (c : ByteArray × Int × List SSeg) (x : Int × Bool × ByteArray × List (List ByteArray) × List Int) (J : (Int × Bool × ByteArray × List (List ByteArray) × List Int) → Option R) : Option R :=
  impl_ReadSegs_L16 n (fun (y2 : Int) (y4 : ByteArray) (y5 : List (List ByteArray)) => K (.exit 2) (stOf (T := T) [0, 5, 6, 7, 8] [3000000, 64, 3000002] [.one (.str), .one (.int .i64), .one (.own 3000000 100 false), .one (.int .i64), .one (.ptr 64 0 0)] [.arr 100 false, .var [.str, .own 3000002 82 false], .arr 82 false] (c.1, c.2.1, (), y2, (), ()) (c.2.2, (y4, (), ()), y5, ()))) (fun (y0 : Int) (y1 : Int) (y2 : List SSeg) => K .ret (stOf (T := T) [2, 3, 4] [3000001] [.one (.own 3000001 100 false), .one (.int .i64), .one (.int .i64)] [.arr 100 false] ((), y0, y1, ()) (y2, ()))) (fun z0 z1 z2 z3 z4 => J (z0, z1, z2, z3, z4)) c.1 c.2.1 x.1 x.2.1 c.2.2 x.2.2.1 x.2.2.2.1 x.2.2.2.2
def impl_ReadSegs_16_sp (n : Nat) : LSpec T := mkSpec T ⟨[((.reg 6), 3000000, 100), ((.cell 64 1), 3000002, 82), ((.cell 72 0), 3000003, 5)], [0, 5, 6, 7, 8, 9, 10, 11], [3000000, 64, 3000002, 72, 3000003]⟩ impl_ReadSegs_16_sv impl_ReadSegs_16_so (ByteArray × Int × List SSeg) (Int × Bool × ByteArray × List (List ByteArray) × List Int) impl_ReadSegs_16_emb impl_ReadSegs_16_prj (impl_ReadSegs_16_b n)
noncomputable def impl_ReadSegs_16_c : Code := ((loopCodes impl_ReadSegs_code)[1]?).getD .skip
def impl_ReadSegs_41_sv : List Sv := [.one (.str), .one (.int .i64), .one (.own 3000000 100 false), .one (.int .i64), .one (.ptr 64 0 0), .one (.int .i64), .one (.int .i64)]
def impl_ReadSegs_41_so : List So := [.arr 100 false, .var [.str, .own 3000002 82 false], .arr 82 false]
def impl_ReadSegs_41_emb (c : ByteArray × Int × Int × Int × List SSeg × ByteArray) (x : Int × List (List ByteArray)) : EVs T impl_ReadSegs_41_sv × EOs T impl_ReadSegs_41_so := ((c.1, c.2.1, (), c.2.2.1, (), c.2.2.2.1, x.1, ()), (c.2.2.2.2.1, (c.2.2.2.2.2, (), ()), x.2, ()))
def impl_ReadSegs_41_prj (y : EVs T impl_ReadSegs_41_sv × EOs T impl_ReadSegs_41_so) : (ByteArray × Int × Int × Int × List SSeg × ByteArray) × (Int × List (List ByteArray)) := ((y.1.1, y.1.2.1, y.1.2.2.2.1, y.1.2.2.2.2.2.1, y.2.1, y.2.2.1.1), (y.1.2.2.2.2.2.2.1, y.2.2.2.1))
def impl_ReadSegs_41_b (n : Nat) {R : Type} (K : Ex → Sm.St T → Option R) (c : ByteArray × Int × Int × Int × List SSeg × ByteArray) (x : Int × List (List ByteArray)) (J : (Int × List (List ByteArray)) → Option R) : Option R :=
  impl_ReadSegs_L41 n (fun (y5 : List (List ByteArray)) => K (.exit 5) (stOf (T := T) [0, 5, 6, 7, 8] [3000000, 64, 3000002] [.one (.str), .one (.int .i64), .one (.own 3000000 100 false), .one (.int .i64), .one (.ptr 64 0 0)] [.arr 100 false, .var [.str, .own 3000002 82 false], .arr 82 false] (c.1, c.2.1, (), c.2.2.1, (), ()) (c.2.2.2.2.1, (c.2.2.2.2.2, (), ()), y5, ()))) (fun z0 z1 => J (z0, z1)) c.1 c.2.1 c.2.2.1 c.2.2.2.1 x.1 c.2.2.2.2.1 c.2.2.2.2.2 x.2
def impl_ReadSegs_41_sp (n : Nat) : LSpec T := mkSpec T ⟨[((.reg 6), 3000000, 100), ((.cell 64 1), 3000002, 82)], [0, 5, 6, 7, 8, 162, 163], [3000000, 64, 3000002]⟩ impl_ReadSegs_41_sv impl_ReadSegs_41_so (ByteArray × Int × Int × Int × List SSeg × ByteArray) (Int × List (List ByteArray)) impl_ReadSegs_41_emb impl_ReadSegs_41_prj (impl_ReadSegs_41_b n)
noncomputable def impl_ReadSegs_41_c : Code := ((loopCodes impl_ReadSegs_code)[2]?).getD .skip
def impl_ReadSegs_ann : Ann := fun id => bif Nat.beq id 3000006 then some ⟨[((.reg 6), 3000000, 100)], [6], [3000000]⟩ else bif Nat.beq id 2000006 then some ⟨[((.reg 2), 3000001, 100)], [2, 3, 4], [3000001]⟩ else bif Nat.beq id 5000016 then some ⟨[((.reg 6), 3000000, 100), ((.cell 64 1), 3000002, 82)], [0, 5, 6, 7, 8], [3000000, 64, 3000002]⟩ else bif Nat.beq id 2000016 then some ⟨[((.reg 2), 3000001, 100)], [2, 3, 4], [3000001]⟩ else bif Nat.beq id 8000041 then some ⟨[((.reg 6), 3000000, 100), ((.cell 64 1), 3000002, 82)], [0, 5, 6, 7, 8], [3000000, 64, 3000002]⟩ else none
def impl_ReadSegs_Ls (n : Nat) : Nat → Option (LSpec T) := fun id => bif Nat.beq id 6 then some (impl_ReadSegs_6_sp n) else bif Nat.beq id 16 then some (impl_ReadSegs_16_sp n) else bif Nat.beq id 41 then some (impl_ReadSegs_41_sp n) else none
theorem impl_ReadSegs_6_le (n : Nat) : LoopEq (T := T) (Phi n 11) (impl_ReadSegs_Ls n) impl_ReadSegs_ann n impl_ReadSegs_6_c (impl_ReadSegs_6_sp n) := ⟨mkSpec_dec (fun y => rfl), fun c x => by kernel_rfl, fun K J c x => by kernel_rfl⟩
theorem impl_ReadSegs_16_le (n : Nat) : LoopEq (T := T) (Phi n 11) (impl_ReadSegs_Ls n) impl_ReadSegs_ann n impl_ReadSegs_16_c (impl_ReadSegs_16_sp n) := ⟨mkSpec_dec (fun y => rfl), fun c x => by kernel_rfl, fun K J c x => by kernel_rfl⟩
theorem impl_ReadSegs_41_le (n : Nat) : LoopEq (T := T) (Phi n 11) (impl_ReadSegs_Ls n) impl_ReadSegs_ann n impl_ReadSegs_41_c (impl_ReadSegs_41_sp n) := ⟨mkSpec_dec (fun y => rfl), fun c x => by kernel_rfl, fun K J c x => by kernel_rfl⟩
theorem impl_ReadSegs_tie (n : Nat) (text0 : ByteArray) : evF (T := T) (Phi n 11) (impl_ReadSegs_Ls n) impl_ReadSegs_ann n Try.f54 (sg 54) [vA T 9 text0] impl_ReadSegs_dec = impl_ReadSegs n text0 := by kernel_rfl
theorem impl_ReadSegs_lo (n : Nat) : LoopsOk (T := T) (Phi n 11) (impl_ReadSegs_Ls n) impl_ReadSegs_ann n impl_ReadSegs_code := loopsOk_all (cs := [impl_ReadSegs_6_c, impl_ReadSegs_16_c, impl_ReadSegs_41_c]) (by kernel_rfl) ⟨⟨_, by kernel_rfl, impl_ReadSegs_6_le n⟩, ⟨_, by kernel_rfl, impl_ReadSegs_16_le n⟩, ⟨_, by kernel_rfl, impl_ReadSegs_41_le n⟩, trivial⟩
theorem impl_ReadSegs_ok (n : Nat) : EntOk Try.prog (ents n) (impl_ReadSegs_ent n) := by
  intro hs ar y hg h
  replace h : impl_ReadSegs_D n ar = some y := h
  unfold impl_ReadSegs_D at h
  replace h := ocons_some h
  obtain ⟨a0, r0, rfl, h⟩ := h
  replace h := onil_some h
  obtain ⟨rfl, h⟩ := h
  obtain ⟨text0, qh0, h⟩ := obind_some h
  rw [argV_eq ok qh0]
  exact call_of (phiE_nat _ _) hs ok mixed Try.func54 (c := impl_ReadSegs_code) (by kernel_rfl) (impl_ReadSegs_lo n) (by kernel_rfl) (by kernel_rfl) (by kernel_rfl) impl_ReadSegs_de ((impl_ReadSegs_tie n text0).trans h)
noncomputable def laws_eqStringS_code : Code := match Try.f231.body with | some c => c | none => .skip
def laws_eqStringS_4_sv : List Sv := [.one (.arr 9), .one (.arr 9), .one (.int .i64)]
def laws_eqStringS_4_so : List So := []
def laws_eqStringS_4_emb (c : List ByteArray × List ByteArray) (x : Int) : EVs T laws_eqStringS_4_sv × EOs T laws_eqStringS_4_so := ((c.1, c.2, x, ()), ())
def laws_eqStringS_4_prj (y : EVs T laws_eqStringS_4_sv × EOs T laws_eqStringS_4_so) : (List ByteArray × List ByteArray) × Int := ((y.1.1, y.1.2.1), (y.1.2.2.1))
def laws_eqStringS_4_b (n : Nat) {R : Type} (K : Ex → Sm.St T → Option R) (c : List ByteArray × List ByteArray) (x : Int) (J : Int → Option R) : Option R :=
  laws_eqStringS_L4 n (K (.exit 0) (stOf (T := T) [] [] [] [] () ())) (fun (y0 : Bool) => K .ret (stOf (T := T) [4] [] [.one (.bool)] [] (y0, ()) ())) J c.1 c.2 x
def laws_eqStringS_4_sp (n : Nat) : LSpec T := mkSpec T ⟨[], [0, 1, 5], []⟩ laws_eqStringS_4_sv laws_eqStringS_4_so (List ByteArray × List ByteArray) (Int) laws_eqStringS_4_emb laws_eqStringS_4_prj (laws_eqStringS_4_b n)
noncomputable def laws_eqStringS_4_c : Code := ((loopCodes laws_eqStringS_code)[0]?).getD .skip
def laws_eqStringS_ann : Ann := fun id => bif Nat.beq id 3000004 then some ⟨[], [], []⟩ else bif Nat.beq id 2000004 then some ⟨[], [4], []⟩ else none
def laws_eqStringS_Ls (n : Nat) : Nat → Option (LSpec T) := fun id => bif Nat.beq id 4 then some (laws_eqStringS_4_sp n) else none
theorem laws_eqStringS_4_le (n : Nat) : LoopEq (T := T) (Phi n 12) (laws_eqStringS_Ls n) laws_eqStringS_ann n laws_eqStringS_4_c (laws_eqStringS_4_sp n) := ⟨mkSpec_dec (fun y => rfl), fun c x => by kernel_rfl, fun K J c x => by kernel_rfl⟩
theorem laws_eqStringS_tie (n : Nat) (a0 : List ByteArray) (b1 : List ByteArray) : evF (T := T) (Phi n 12) (laws_eqStringS_Ls n) laws_eqStringS_ann n Try.f231 (sg 231) [vA T 82 a0, vA T 82 b1] laws_eqStringS_dec = laws_eqStringS n a0 b1 := by kernel_rfl
theorem laws_eqStringS_lo (n : Nat) : LoopsOk (T := T) (Phi n 12) (laws_eqStringS_Ls n) laws_eqStringS_ann n laws_eqStringS_code := loopsOk_all (cs := [laws_eqStringS_4_c]) (by kernel_rfl) ⟨⟨_, by kernel_rfl, laws_eqStringS_4_le n⟩, trivial⟩
theorem laws_eqStringS_ok (n : Nat) : EntOk Try.prog (ents n) (laws_eqStringS_ent n) := by
  intro hs ar y hg h
  replace h : laws_eqStringS_D n ar = some y := h
  unfold laws_eqStringS_D at h
  replace h := ocons_some h
  obtain ⟨a0, r0, rfl, h⟩ := h
  replace h := ocons_some h
  obtain ⟨a1, r1, rfl, h⟩ := h
  replace h := onil_some h
  obtain ⟨rfl, h⟩ := h
  obtain ⟨a0, qh0, h⟩ := obind_some h
  obtain ⟨b1, qh1, h⟩ := obind_some h
  rw [argV_eq ok qh0, argV_eq ok qh1]
  exact call_of (phiE_nat _ _) hs ok mixed Try.func231 (c := laws_eqStringS_code) (by kernel_rfl) (laws_eqStringS_lo n) (by kernel_rfl) (by kernel_rfl) (by kernel_rfl) laws_eqStringS_de ((laws_eqStringS_tie n a0 b1).trans h)
noncomputable def laws_eqStringSS_code : Code := match Try.f191.body with | some c => c | none => .skip
def laws_eqStringSS_4_sv : List Sv := [.one (.arr 82), .one (.arr 82), .one (.int .i64)]
def laws_eqStringSS_4_so : List So := []
def laws_eqStringSS_4_emb (c : List (List ByteArray) × List (List ByteArray)) (x : Int) : EVs T laws_eqStringSS_4_sv × EOs T laws_eqStringSS_4_so := ((c.1, c.2, x, ()), ())
def laws_eqStringSS_4_prj (y : EVs T laws_eqStringSS_4_sv × EOs T laws_eqStringSS_4_so) : (List (List ByteArray) × List (List ByteArray)) × Int := ((y.1.1, y.1.2.1), (y.1.2.2.1))
def laws_eqStringSS_4_b (n : Nat) {R : Type} (K : Ex → Sm.St T → Option R) (c : List (List ByteArray) × List (List ByteArray)) (x : Int) (J : Int → Option R) : Option R :=
  laws_eqStringSS_L4 n (K (.exit 0) (stOf (T := T) [] [] [] [] () ())) (fun (y0 : Bool) => K .ret (stOf (T := T) [4] [] [.one (.bool)] [] (y0, ()) ())) J c.1 c.2 x
def laws_eqStringSS_4_sp (n : Nat) : LSpec T := mkSpec T ⟨[], [0, 1, 5], []⟩ laws_eqStringSS_4_sv laws_eqStringSS_4_so (List (List ByteArray) × List (List ByteArray)) (Int) laws_eqStringSS_4_emb laws_eqStringSS_4_prj (laws_eqStringSS_4_b n)
noncomputable def laws_eqStringSS_4_c : Code := ((loopCodes laws_eqStringSS_code)[0]?).getD .skip
def laws_eqStringSS_ann : Ann := fun id => bif Nat.beq id 3000004 then some ⟨[], [], []⟩ else bif Nat.beq id 2000004 then some ⟨[], [4], []⟩ else none
def laws_eqStringSS_Ls (n : Nat) : Nat → Option (LSpec T) := fun id => bif Nat.beq id 4 then some (laws_eqStringSS_4_sp n) else none
theorem laws_eqStringSS_4_le (n : Nat) : LoopEq (T := T) (Phi n 13) (laws_eqStringSS_Ls n) laws_eqStringSS_ann n laws_eqStringSS_4_c (laws_eqStringSS_4_sp n) := ⟨mkSpec_dec (fun y => rfl), fun c x => by kernel_rfl, fun K J c x => by kernel_rfl⟩
theorem laws_eqStringSS_tie (n : Nat) (a0 : List (List ByteArray)) (b1 : List (List ByteArray)) : evF (T := T) (Phi n 13) (laws_eqStringSS_Ls n) laws_eqStringSS_ann n Try.f191 (sg 191) [vA T 98 a0, vA T 98 b1] laws_eqStringSS_dec = laws_eqStringSS n a0 b1 := by kernel_rfl
theorem laws_eqStringSS_lo (n : Nat) : LoopsOk (T := T) (Phi n 13) (laws_eqStringSS_Ls n) laws_eqStringSS_ann n laws_eqStringSS_code := loopsOk_all (cs := [laws_eqStringSS_4_c]) (by kernel_rfl) ⟨⟨_, by kernel_rfl, laws_eqStringSS_4_le n⟩, trivial⟩
theorem laws_eqStringSS_ok (n : Nat) : EntOk Try.prog (ents n) (laws_eqStringSS_ent n) := by
  intro hs ar y hg h
  replace h : laws_eqStringSS_D n ar = some y := h
  unfold laws_eqStringSS_D at h
  replace h := ocons_some h
  obtain ⟨a0, r0, rfl, h⟩ := h
  replace h := ocons_some h
  obtain ⟨a1, r1, rfl, h⟩ := h
  replace h := onil_some h
  obtain ⟨rfl, h⟩ := h
  obtain ⟨a0, qh0, h⟩ := obind_some h
  obtain ⟨b1, qh1, h⟩ := obind_some h
  rw [argV_eq ok qh0, argV_eq ok qh1]
  exact call_of (phiE_nat _ _) hs ok mixed Try.func191 (c := laws_eqStringSS_code) (by kernel_rfl) (laws_eqStringSS_lo n) (by kernel_rfl) (by kernel_rfl) (by kernel_rfl) laws_eqStringSS_de ((laws_eqStringSS_tie n a0 b1).trans h)
noncomputable def laws_eqSeg_code : Code := match Try.f144.body with | some c => c | none => .skip
def laws_eqSeg_ann : Ann := fun id => none
def laws_eqSeg_Ls (n : Nat) : Nat → Option (LSpec T) := fun id => none
theorem laws_eqSeg_tie (n : Nat) (a0 : SSeg) (b1 : SSeg) : evF (T := T) (Phi n 14) (laws_eqSeg_Ls n) laws_eqSeg_ann n Try.f144 (sg 144) [vA T 100 a0, vA T 100 b1] laws_eqSeg_dec = laws_eqSeg n a0 b1 := by kernel_rfl
theorem laws_eqSeg_lo (n : Nat) : LoopsOk (T := T) (Phi n 14) (laws_eqSeg_Ls n) laws_eqSeg_ann n laws_eqSeg_code := loopsOk_all (cs := []) (by kernel_rfl) trivial
theorem laws_eqSeg_ok (n : Nat) : EntOk Try.prog (ents n) (laws_eqSeg_ent n) := by
  intro hs ar y hg h
  replace h : laws_eqSeg_D n ar = some y := h
  unfold laws_eqSeg_D at h
  replace h := ocons_some h
  obtain ⟨a0, r0, rfl, h⟩ := h
  replace h := ocons_some h
  obtain ⟨a1, r1, rfl, h⟩ := h
  replace h := onil_some h
  obtain ⟨rfl, h⟩ := h
  obtain ⟨a0, qh0, h⟩ := obind_some h
  obtain ⟨b1, qh1, h⟩ := obind_some h
  rw [argV_eq ok qh0, argV_eq ok qh1]
  exact call_of (phiE_nat _ _) hs ok mixed Try.func144 (c := laws_eqSeg_code) (by kernel_rfl) (laws_eqSeg_lo n) (by kernel_rfl) (by kernel_rfl) (by kernel_rfl) laws_eqSeg_de ((laws_eqSeg_tie n a0 b1).trans h)
noncomputable def laws_eqSegS_code : Code := match Try.f55.body with | some c => c | none => .skip
def laws_eqSegS_4_sv : List Sv := [.one (.arr 100), .one (.arr 100), .one (.int .i64)]
def laws_eqSegS_4_so : List So := []
def laws_eqSegS_4_emb (c : List SSeg × List SSeg) (x : Int) : EVs T laws_eqSegS_4_sv × EOs T laws_eqSegS_4_so := ((c.1, c.2, x, ()), ())
def laws_eqSegS_4_prj (y : EVs T laws_eqSegS_4_sv × EOs T laws_eqSegS_4_so) : (List SSeg × List SSeg) × Int := ((y.1.1, y.1.2.1), (y.1.2.2.1))
def laws_eqSegS_4_b (n : Nat) {R : Type} (K : Ex → Sm.St T → Option R) (c : List SSeg × List SSeg) (x : Int) (J : Int → Option R) : Option R :=
  laws_eqSegS_L4 n (K (.exit 0) (stOf (T := T) [] [] [] [] () ())) (fun (y0 : Bool) => K .ret (stOf (T := T) [4] [] [.one (.bool)] [] (y0, ()) ())) J c.1 c.2 x
def laws_eqSegS_4_sp (n : Nat) : LSpec T := mkSpec T ⟨[], [0, 1, 5], []⟩ laws_eqSegS_4_sv laws_eqSegS_4_so (List SSeg × List SSeg) (Int) laws_eqSegS_4_emb laws_eqSegS_4_prj (laws_eqSegS_4_b n)
noncomputable def laws_eqSegS_4_c : Code := ((loopCodes laws_eqSegS_code)[0]?).getD .skip
def laws_eqSegS_ann : Ann := fun id => bif Nat.beq id 3000004 then some ⟨[], [], []⟩ else bif Nat.beq id 2000004 then some ⟨[], [4], []⟩ else none
def laws_eqSegS_Ls (n : Nat) : Nat → Option (LSpec T) := fun id => bif Nat.beq id 4 then some (laws_eqSegS_4_sp n) else none
theorem laws_eqSegS_4_le (n : Nat) : LoopEq (T := T) (Phi n 15) (laws_eqSegS_Ls n) laws_eqSegS_ann n laws_eqSegS_4_c (laws_eqSegS_4_sp n) := ⟨mkSpec_dec (fun y => rfl), fun c x => by kernel_rfl, fun K J c x => by kernel_rfl⟩
theorem laws_eqSegS_tie (n : Nat) (a0 : List SSeg) (b1 : List SSeg) : evF (T := T) (Phi n 15) (laws_eqSegS_Ls n) laws_eqSegS_ann n Try.f55 (sg 55) [vA T 89 a0, vA T 89 b1] laws_eqSegS_dec = laws_eqSegS n a0 b1 := by kernel_rfl
theorem laws_eqSegS_lo (n : Nat) : LoopsOk (T := T) (Phi n 15) (laws_eqSegS_Ls n) laws_eqSegS_ann n laws_eqSegS_code := loopsOk_all (cs := [laws_eqSegS_4_c]) (by kernel_rfl) ⟨⟨_, by kernel_rfl, laws_eqSegS_4_le n⟩, trivial⟩
theorem laws_eqSegS_ok (n : Nat) : EntOk Try.prog (ents n) (laws_eqSegS_ent n) := by
  intro hs ar y hg h
  replace h : laws_eqSegS_D n ar = some y := h
  unfold laws_eqSegS_D at h
  replace h := ocons_some h
  obtain ⟨a0, r0, rfl, h⟩ := h
  replace h := ocons_some h
  obtain ⟨a1, r1, rfl, h⟩ := h
  replace h := onil_some h
  obtain ⟨rfl, h⟩ := h
  obtain ⟨a0, qh0, h⟩ := obind_some h
  obtain ⟨b1, qh1, h⟩ := obind_some h
  rw [argV_eq ok qh0, argV_eq ok qh1]
  exact call_of (phiE_nat _ _) hs ok mixed Try.func55 (c := laws_eqSegS_code) (by kernel_rfl) (laws_eqSegS_lo n) (by kernel_rfl) (by kernel_rfl) (by kernel_rfl) laws_eqSegS_de ((laws_eqSegS_tie n a0 b1).trans h)
noncomputable def laws_markText_code : Code := match Try.f145.body with | some c => c | none => .skip
def laws_markText_4_sv : List Sv := [.one (.int .i64), .one (.str)]
def laws_markText_4_so : List So := []
def laws_markText_4_emb (c : Unit) (x : Int × ByteArray) : EVs T laws_markText_4_sv × EOs T laws_markText_4_so := ((x.1, x.2, ()), ())
def laws_markText_4_prj (y : EVs T laws_markText_4_sv × EOs T laws_markText_4_so) : Unit × (Int × ByteArray) := ((), (y.1.1, y.1.2.1))
def laws_markText_4_b (n : Nat) {R : Type} (K : Ex → Sm.St T → Option R) (c : Unit) (x : Int × ByteArray) (J : (Int × ByteArray) → Option R) : Option R :=
  laws_markText_L4 n (fun (y0 : ByteArray) => K (.exit 0) (stOf (T := T) [3] [] [.one (.str)] [] (y0, ()) ())) (fun z0 z1 => J (z0, z1)) x.1 x.2
def laws_markText_4_sp (n : Nat) : LSpec T := mkSpec T ⟨[], [0, 3], []⟩ laws_markText_4_sv laws_markText_4_so (Unit) (Int × ByteArray) laws_markText_4_emb laws_markText_4_prj (laws_markText_4_b n)
noncomputable def laws_markText_4_c : Code := ((loopCodes laws_markText_code)[0]?).getD .skip
def laws_markText_ann : Ann := fun id => bif Nat.beq id 3000004 then some ⟨[], [3], []⟩ else none
def laws_markText_Ls (n : Nat) : Nat → Option (LSpec T) := fun id => bif Nat.beq id 4 then some (laws_markText_4_sp n) else none
theorem laws_markText_4_le (n : Nat) : LoopEq (T := T) (Phi n 16) (laws_markText_Ls n) laws_markText_ann n laws_markText_4_c (laws_markText_4_sp n) := ⟨mkSpec_dec (fun y => rfl), fun c x => by kernel_rfl, fun K J c x => by kernel_rfl⟩
theorem laws_markText_tie (n : Nat) (k0 : Int) : evF (T := T) (Phi n 16) (laws_markText_Ls n) laws_markText_ann n Try.f145 (sg 145) [vA T 3 k0] laws_markText_dec = laws_markText n k0 := by kernel_rfl
theorem laws_markText_lo (n : Nat) : LoopsOk (T := T) (Phi n 16) (laws_markText_Ls n) laws_markText_ann n laws_markText_code := loopsOk_all (cs := [laws_markText_4_c]) (by kernel_rfl) ⟨⟨_, by kernel_rfl, laws_markText_4_le n⟩, trivial⟩
theorem laws_markText_ok (n : Nat) : EntOk Try.prog (ents n) (laws_markText_ent n) := by
  intro hs ar y hg h
  replace h : laws_markText_D n ar = some y := h
  unfold laws_markText_D at h
  replace h := ocons_some h
  obtain ⟨a0, r0, rfl, h⟩ := h
  replace h := onil_some h
  obtain ⟨rfl, h⟩ := h
  obtain ⟨k0, qh0, h⟩ := obind_some h
  rw [argV_eq ok qh0]
  exact call_of (phiE_nat _ _) hs ok mixed Try.func145 (c := laws_markText_code) (by kernel_rfl) (laws_markText_lo n) (by kernel_rfl) (by kernel_rfl) (by kernel_rfl) laws_markText_de ((laws_markText_tie n k0).trans h)
noncomputable def laws_markStringS_code : Code := match Try.f186.body with | some c => c | none => .skip
def laws_markStringS_2_sv : List Sv := [.one (.own 4503599627370496 9 false), .one (.int .i64), .one (.int .i64)]
def laws_markStringS_2_so : List So := [.arr 9 true]
def laws_markStringS_2_emb (c : Unit) (x : Int × Int × List ByteArray) : EVs T laws_markStringS_2_sv × EOs T laws_markStringS_2_so := (((), x.1, x.2.1, ()), (x.2.2, ()))
def laws_markStringS_2_prj (y : EVs T laws_markStringS_2_sv × EOs T laws_markStringS_2_so) : Unit × (Int × Int × List ByteArray) := ((), (y.1.2.1, y.1.2.2.1, y.2.1))
def laws_markStringS_2_b (n : Nat) {R : Type} (K : Ex → Sm.St T → Option R) (c : Unit) (x : Int × Int × List ByteArray) (J : (Int × Int × List ByteArray) → Option R) : Option R :=
  laws_markStringS_L2 n (fun (y0 : Int) (y1 : List ByteArray) => K (.exit 0) (stOf (T := T) [1] [4503599627370496] [.one (.int .i64)] [.arr 9 true] (y0, ()) (y1, ()))) (fun z0 z1 z2 => J (z0, z1, z2)) x.1 x.2.1 x.2.2
def laws_markStringS_2_sp (n : Nat) : LSpec T := mkSpec T ⟨[], [0, 1, 5], [4503599627370496]⟩ laws_markStringS_2_sv laws_markStringS_2_so (Unit) (Int × Int × List ByteArray) laws_markStringS_2_emb laws_markStringS_2_prj (laws_markStringS_2_b n)
noncomputable def laws_markStringS_2_c : Code := ((loopCodes laws_markStringS_code)[0]?).getD .skip
def laws_markStringS_ann : Ann := fun id => bif Nat.beq id 3000002 then some ⟨[], [1], [4503599627370496]⟩ else none
def laws_markStringS_Ls (n : Nat) : Nat → Option (LSpec T) := fun id => bif Nat.beq id 2 then some (laws_markStringS_2_sp n) else none
theorem laws_markStringS_2_le (n : Nat) : LoopEq (T := T) (Phi n 17) (laws_markStringS_Ls n) laws_markStringS_ann n laws_markStringS_2_c (laws_markStringS_2_sp n) := ⟨mkSpec_dec (fun y => rfl), fun c x => by kernel_rfl, fun K J c x => by kernel_rfl⟩
theorem laws_markStringS_tie (n : Nat) (a0 : List ByteArray) (k1 : Int) : evF (T := T) (Phi n 17) (laws_markStringS_Ls n) laws_markStringS_ann n Try.f186 (sg 186) [vA T 82 a0, vA T 3 k1] laws_markStringS_dec = laws_markStringS n a0 k1 := by kernel_rfl
theorem laws_markStringS_lo (n : Nat) : LoopsOk (T := T) (Phi n 17) (laws_markStringS_Ls n) laws_markStringS_ann n laws_markStringS_code := loopsOk_all (cs := [laws_markStringS_2_c]) (by kernel_rfl) ⟨⟨_, by kernel_rfl, laws_markStringS_2_le n⟩, trivial⟩
theorem laws_markStringS_ok (n : Nat) : EntOk Try.prog (ents n) (laws_markStringS_ent n) := by
  intro hs ar y hg h
  replace h : laws_markStringS_D n ar = some y := h
  unfold laws_markStringS_D at h
  replace h := ocons_some h
  obtain ⟨a0, r0, rfl, h⟩ := h
  replace h := ocons_some h
  obtain ⟨a1, r1, rfl, h⟩ := h
  replace h := onil_some h
  obtain ⟨rfl, h⟩ := h
  obtain ⟨a0, qh0, h⟩ := obind_some h
  obtain ⟨k1, qh1, h⟩ := obind_some h
  rw [argV_eq ok qh0, argV_eq ok qh1]
  exact call_of (phiE_nat _ _) hs ok mixed Try.func186 (c := laws_markStringS_code) (by kernel_rfl) (laws_markStringS_lo n) (by kernel_rfl) (by kernel_rfl) (by kernel_rfl) laws_markStringS_de ((laws_markStringS_tie n a0 k1).trans h)
noncomputable def laws_markStringSS_code : Code := match Try.f146.body with | some c => c | none => .skip
def laws_markStringSS_2_sv : List Sv := [.one (.own 4503599627370496 82 false), .one (.int .i64), .one (.int .i64)]
def laws_markStringSS_2_so : List So := [.arr 82 true]
def laws_markStringSS_2_emb (c : Unit) (x : Int × Int × List (List ByteArray)) : EVs T laws_markStringSS_2_sv × EOs T laws_markStringSS_2_so := (((), x.1, x.2.1, ()), (x.2.2, ()))
def laws_markStringSS_2_prj (y : EVs T laws_markStringSS_2_sv × EOs T laws_markStringSS_2_so) : Unit × (Int × Int × List (List ByteArray)) := ((), (y.1.2.1, y.1.2.2.1, y.2.1))
def laws_markStringSS_2_b (n : Nat) {R : Type} (K : Ex → Sm.St T → Option R) (c : Unit) (x : Int × Int × List (List ByteArray)) (J : (Int × Int × List (List ByteArray)) → Option R) : Option R :=
  laws_markStringSS_L2 n (fun (y0 : Int) (y1 : List (List ByteArray)) => K (.exit 0) (stOf (T := T) [1] [4503599627370496] [.one (.int .i64)] [.arr 82 true] (y0, ()) (y1, ()))) (fun z0 z1 z2 => J (z0, z1, z2)) x.1 x.2.1 x.2.2
def laws_markStringSS_2_sp (n : Nat) : LSpec T := mkSpec T ⟨[], [0, 1, 5], [4503599627370496]⟩ laws_markStringSS_2_sv laws_markStringSS_2_so (Unit) (Int × Int × List (List ByteArray)) laws_markStringSS_2_emb laws_markStringSS_2_prj (laws_markStringSS_2_b n)
noncomputable def laws_markStringSS_2_c : Code := ((loopCodes laws_markStringSS_code)[0]?).getD .skip
def laws_markStringSS_ann : Ann := fun id => bif Nat.beq id 3000002 then some ⟨[], [1], [4503599627370496]⟩ else none
def laws_markStringSS_Ls (n : Nat) : Nat → Option (LSpec T) := fun id => bif Nat.beq id 2 then some (laws_markStringSS_2_sp n) else none
theorem laws_markStringSS_2_le (n : Nat) : LoopEq (T := T) (Phi n 18) (laws_markStringSS_Ls n) laws_markStringSS_ann n laws_markStringSS_2_c (laws_markStringSS_2_sp n) := ⟨mkSpec_dec (fun y => rfl), fun c x => by kernel_rfl, fun K J c x => by kernel_rfl⟩
theorem laws_markStringSS_tie (n : Nat) (a0 : List (List ByteArray)) (k1 : Int) : evF (T := T) (Phi n 18) (laws_markStringSS_Ls n) laws_markStringSS_ann n Try.f146 (sg 146) [vA T 98 a0, vA T 3 k1] laws_markStringSS_dec = laws_markStringSS n a0 k1 := by kernel_rfl
theorem laws_markStringSS_lo (n : Nat) : LoopsOk (T := T) (Phi n 18) (laws_markStringSS_Ls n) laws_markStringSS_ann n laws_markStringSS_code := loopsOk_all (cs := [laws_markStringSS_2_c]) (by kernel_rfl) ⟨⟨_, by kernel_rfl, laws_markStringSS_2_le n⟩, trivial⟩
theorem laws_markStringSS_ok (n : Nat) : EntOk Try.prog (ents n) (laws_markStringSS_ent n) := by
  intro hs ar y hg h
  replace h : laws_markStringSS_D n ar = some y := h
  unfold laws_markStringSS_D at h
  replace h := ocons_some h
  obtain ⟨a0, r0, rfl, h⟩ := h
  replace h := ocons_some h
  obtain ⟨a1, r1, rfl, h⟩ := h
  replace h := onil_some h
  obtain ⟨rfl, h⟩ := h
  obtain ⟨a0, qh0, h⟩ := obind_some h
  obtain ⟨k1, qh1, h⟩ := obind_some h
  rw [argV_eq ok qh0, argV_eq ok qh1]
  exact call_of (phiE_nat _ _) hs ok mixed Try.func146 (c := laws_markStringSS_code) (by kernel_rfl) (laws_markStringSS_lo n) (by kernel_rfl) (by kernel_rfl) (by kernel_rfl) laws_markStringSS_de ((laws_markStringSS_tie n a0 k1).trans h)
noncomputable def laws_markSegS_code : Code := match Try.f56.body with | some c => c | none => .skip
def laws_markSegS_2_sv : List Sv := [.one (.own 4503599627370496 100 false), .one (.int .i64), .one (.int .i64)]
def laws_markSegS_2_so : List So := [.arr 100 true]
def laws_markSegS_2_emb (c : Unit) (x : Int × Int × List SSeg) : EVs T laws_markSegS_2_sv × EOs T laws_markSegS_2_so := (((), x.1, x.2.1, ()), (x.2.2, ()))
def laws_markSegS_2_prj (y : EVs T laws_markSegS_2_sv × EOs T laws_markSegS_2_so) : Unit × (Int × Int × List SSeg) := ((), (y.1.2.1, y.1.2.2.1, y.2.1))
def laws_markSegS_2_b (n : Nat) {R : Type} (K : Ex → Sm.St T → Option R) (c : Unit) (x : Int × Int × List SSeg) (J : (Int × Int × List SSeg) → Option R) : Option R :=
  laws_markSegS_L2 n (fun (y0 : Int) (y1 : List SSeg) => K (.exit 0) (stOf (T := T) [1] [4503599627370496] [.one (.int .i64)] [.arr 100 true] (y0, ()) (y1, ()))) (fun z0 z1 z2 => J (z0, z1, z2)) x.1 x.2.1 x.2.2
def laws_markSegS_2_sp (n : Nat) : LSpec T := mkSpec T ⟨[], [0, 1, 5], [4503599627370496]⟩ laws_markSegS_2_sv laws_markSegS_2_so (Unit) (Int × Int × List SSeg) laws_markSegS_2_emb laws_markSegS_2_prj (laws_markSegS_2_b n)
noncomputable def laws_markSegS_2_c : Code := ((loopCodes laws_markSegS_code)[0]?).getD .skip
def laws_markSegS_ann : Ann := fun id => bif Nat.beq id 3000002 then some ⟨[], [1], [4503599627370496]⟩ else none
def laws_markSegS_Ls (n : Nat) : Nat → Option (LSpec T) := fun id => bif Nat.beq id 2 then some (laws_markSegS_2_sp n) else none
theorem laws_markSegS_2_le (n : Nat) : LoopEq (T := T) (Phi n 19) (laws_markSegS_Ls n) laws_markSegS_ann n laws_markSegS_2_c (laws_markSegS_2_sp n) := ⟨mkSpec_dec (fun y => rfl), fun c x => by kernel_rfl, fun K J c x => by kernel_rfl⟩
theorem laws_markSegS_tie (n : Nat) (a0 : List SSeg) (k1 : Int) : evF (T := T) (Phi n 19) (laws_markSegS_Ls n) laws_markSegS_ann n Try.f56 (sg 56) [vA T 89 a0, vA T 3 k1] laws_markSegS_dec = laws_markSegS n a0 k1 := by kernel_rfl
theorem laws_markSegS_lo (n : Nat) : LoopsOk (T := T) (Phi n 19) (laws_markSegS_Ls n) laws_markSegS_ann n laws_markSegS_code := loopsOk_all (cs := [laws_markSegS_2_c]) (by kernel_rfl) ⟨⟨_, by kernel_rfl, laws_markSegS_2_le n⟩, trivial⟩
theorem laws_markSegS_ok (n : Nat) : EntOk Try.prog (ents n) (laws_markSegS_ent n) := by
  intro hs ar y hg h
  replace h : laws_markSegS_D n ar = some y := h
  unfold laws_markSegS_D at h
  replace h := ocons_some h
  obtain ⟨a0, r0, rfl, h⟩ := h
  replace h := ocons_some h
  obtain ⟨a1, r1, rfl, h⟩ := h
  replace h := onil_some h
  obtain ⟨rfl, h⟩ := h
  obtain ⟨a0, qh0, h⟩ := obind_some h
  obtain ⟨k1, qh1, h⟩ := obind_some h
  rw [argV_eq ok qh0, argV_eq ok qh1]
  exact call_of (phiE_nat _ _) hs ok mixed Try.func56 (c := laws_markSegS_code) (by kernel_rfl) (laws_markSegS_lo n) (by kernel_rfl) (by kernel_rfl) (by kernel_rfl) laws_markSegS_de ((laws_markSegS_tie n a0 k1).trans h)
noncomputable def laws_heldStringS_code : Code := match Try.f187.body with | some c => c | none => .skip
def laws_heldStringS_2_sv : List Sv := [.one (.arr 9), .one (.int .i64), .one (.int .i64)]
def laws_heldStringS_2_so : List So := []
def laws_heldStringS_2_emb (c : List ByteArray) (x : Int × Int) : EVs T laws_heldStringS_2_sv × EOs T laws_heldStringS_2_so := ((c, x.1, x.2, ()), ())
def laws_heldStringS_2_prj (y : EVs T laws_heldStringS_2_sv × EOs T laws_heldStringS_2_so) : List ByteArray × (Int × Int) := ((y.1.1), (y.1.2.1, y.1.2.2.1))
def laws_heldStringS_2_b (n : Nat) {R : Type} (K : Ex → Sm.St T → Option R) (c : List ByteArray) (x : Int × Int) (J : (Int × Int) → Option R) : Option R :=
  laws_heldStringS_L2 n (fun (y0 : Int) => K (.exit 0) (stOf (T := T) [1] [] [.one (.int .i64)] [] (y0, ()) ())) (fun (y0 : Int) => K .ret (stOf (T := T) [4] [] [.one (.int .i64)] [] (y0, ()) ())) (fun z0 z1 => J (z0, z1)) c x.1 x.2
def laws_heldStringS_2_sp (n : Nat) : LSpec T := mkSpec T ⟨[], [0, 1, 5], []⟩ laws_heldStringS_2_sv laws_heldStringS_2_so (List ByteArray) (Int × Int) laws_heldStringS_2_emb laws_heldStringS_2_prj (laws_heldStringS_2_b n)
noncomputable def laws_heldStringS_2_c : Code := ((loopCodes laws_heldStringS_code)[0]?).getD .skip
def laws_heldStringS_ann : Ann := fun id => bif Nat.beq id 3000002 then some ⟨[], [1], []⟩ else bif Nat.beq id 2000002 then some ⟨[], [4], []⟩ else none
def laws_heldStringS_Ls (n : Nat) : Nat → Option (LSpec T) := fun id => bif Nat.beq id 2 then some (laws_heldStringS_2_sp n) else none
theorem laws_heldStringS_2_le (n : Nat) : LoopEq (T := T) (Phi n 20) (laws_heldStringS_Ls n) laws_heldStringS_ann n laws_heldStringS_2_c (laws_heldStringS_2_sp n) := ⟨mkSpec_dec (fun y => rfl), fun c x => by kernel_rfl, fun K J c x => by kernel_rfl⟩
theorem laws_heldStringS_tie (n : Nat) (a0 : List ByteArray) (k1 : Int) : evF (T := T) (Phi n 20) (laws_heldStringS_Ls n) laws_heldStringS_ann n Try.f187 (sg 187) [vA T 82 a0, vA T 3 k1] laws_heldStringS_dec = laws_heldStringS n a0 k1 := by kernel_rfl
theorem laws_heldStringS_lo (n : Nat) : LoopsOk (T := T) (Phi n 20) (laws_heldStringS_Ls n) laws_heldStringS_ann n laws_heldStringS_code := loopsOk_all (cs := [laws_heldStringS_2_c]) (by kernel_rfl) ⟨⟨_, by kernel_rfl, laws_heldStringS_2_le n⟩, trivial⟩
theorem laws_heldStringS_ok (n : Nat) : EntOk Try.prog (ents n) (laws_heldStringS_ent n) := by
  intro hs ar y hg h
  replace h : laws_heldStringS_D n ar = some y := h
  unfold laws_heldStringS_D at h
  replace h := ocons_some h
  obtain ⟨a0, r0, rfl, h⟩ := h
  replace h := ocons_some h
  obtain ⟨a1, r1, rfl, h⟩ := h
  replace h := onil_some h
  obtain ⟨rfl, h⟩ := h
  obtain ⟨a0, qh0, h⟩ := obind_some h
  obtain ⟨k1, qh1, h⟩ := obind_some h
  rw [argV_eq ok qh0, argV_eq ok qh1]
  exact call_of (phiE_nat _ _) hs ok mixed Try.func187 (c := laws_heldStringS_code) (by kernel_rfl) (laws_heldStringS_lo n) (by kernel_rfl) (by kernel_rfl) (by kernel_rfl) laws_heldStringS_de ((laws_heldStringS_tie n a0 k1).trans h)
noncomputable def laws_heldStringSS_code : Code := match Try.f147.body with | some c => c | none => .skip
def laws_heldStringSS_2_sv : List Sv := [.one (.arr 82), .one (.int .i64), .one (.int .i64)]
def laws_heldStringSS_2_so : List So := []
def laws_heldStringSS_2_emb (c : List (List ByteArray)) (x : Int × Int) : EVs T laws_heldStringSS_2_sv × EOs T laws_heldStringSS_2_so := ((c, x.1, x.2, ()), ())
def laws_heldStringSS_2_prj (y : EVs T laws_heldStringSS_2_sv × EOs T laws_heldStringSS_2_so) : List (List ByteArray) × (Int × Int) := ((y.1.1), (y.1.2.1, y.1.2.2.1))
def laws_heldStringSS_2_b (n : Nat) {R : Type} (K : Ex → Sm.St T → Option R) (c : List (List ByteArray)) (x : Int × Int) (J : (Int × Int) → Option R) : Option R :=
  laws_heldStringSS_L2 n (fun (y0 : Int) => K (.exit 0) (stOf (T := T) [1] [] [.one (.int .i64)] [] (y0, ()) ())) (fun (y0 : Int) => K .ret (stOf (T := T) [4] [] [.one (.int .i64)] [] (y0, ()) ())) (fun z0 z1 => J (z0, z1)) c x.1 x.2
def laws_heldStringSS_2_sp (n : Nat) : LSpec T := mkSpec T ⟨[], [0, 1, 5], []⟩ laws_heldStringSS_2_sv laws_heldStringSS_2_so (List (List ByteArray)) (Int × Int) laws_heldStringSS_2_emb laws_heldStringSS_2_prj (laws_heldStringSS_2_b n)
noncomputable def laws_heldStringSS_2_c : Code := ((loopCodes laws_heldStringSS_code)[0]?).getD .skip
def laws_heldStringSS_ann : Ann := fun id => bif Nat.beq id 3000002 then some ⟨[], [1], []⟩ else bif Nat.beq id 2000002 then some ⟨[], [4], []⟩ else none
def laws_heldStringSS_Ls (n : Nat) : Nat → Option (LSpec T) := fun id => bif Nat.beq id 2 then some (laws_heldStringSS_2_sp n) else none
theorem laws_heldStringSS_2_le (n : Nat) : LoopEq (T := T) (Phi n 21) (laws_heldStringSS_Ls n) laws_heldStringSS_ann n laws_heldStringSS_2_c (laws_heldStringSS_2_sp n) := ⟨mkSpec_dec (fun y => rfl), fun c x => by kernel_rfl, fun K J c x => by kernel_rfl⟩
theorem laws_heldStringSS_tie (n : Nat) (a0 : List (List ByteArray)) (k1 : Int) : evF (T := T) (Phi n 21) (laws_heldStringSS_Ls n) laws_heldStringSS_ann n Try.f147 (sg 147) [vA T 98 a0, vA T 3 k1] laws_heldStringSS_dec = laws_heldStringSS n a0 k1 := by kernel_rfl
theorem laws_heldStringSS_lo (n : Nat) : LoopsOk (T := T) (Phi n 21) (laws_heldStringSS_Ls n) laws_heldStringSS_ann n laws_heldStringSS_code := loopsOk_all (cs := [laws_heldStringSS_2_c]) (by kernel_rfl) ⟨⟨_, by kernel_rfl, laws_heldStringSS_2_le n⟩, trivial⟩
theorem laws_heldStringSS_ok (n : Nat) : EntOk Try.prog (ents n) (laws_heldStringSS_ent n) := by
  intro hs ar y hg h
  replace h : laws_heldStringSS_D n ar = some y := h
  unfold laws_heldStringSS_D at h
  replace h := ocons_some h
  obtain ⟨a0, r0, rfl, h⟩ := h
  replace h := ocons_some h
  obtain ⟨a1, r1, rfl, h⟩ := h
  replace h := onil_some h
  obtain ⟨rfl, h⟩ := h
  obtain ⟨a0, qh0, h⟩ := obind_some h
  obtain ⟨k1, qh1, h⟩ := obind_some h
  rw [argV_eq ok qh0, argV_eq ok qh1]
  exact call_of (phiE_nat _ _) hs ok mixed Try.func147 (c := laws_heldStringSS_code) (by kernel_rfl) (laws_heldStringSS_lo n) (by kernel_rfl) (by kernel_rfl) (by kernel_rfl) laws_heldStringSS_de ((laws_heldStringSS_tie n a0 k1).trans h)
noncomputable def laws_heldSegS_code : Code := match Try.f57.body with | some c => c | none => .skip
def laws_heldSegS_2_sv : List Sv := [.one (.arr 100), .one (.int .i64), .one (.int .i64)]
def laws_heldSegS_2_so : List So := []
def laws_heldSegS_2_emb (c : List SSeg) (x : Int × Int) : EVs T laws_heldSegS_2_sv × EOs T laws_heldSegS_2_so := ((c, x.1, x.2, ()), ())
def laws_heldSegS_2_prj (y : EVs T laws_heldSegS_2_sv × EOs T laws_heldSegS_2_so) : List SSeg × (Int × Int) := ((y.1.1), (y.1.2.1, y.1.2.2.1))
def laws_heldSegS_2_b (n : Nat) {R : Type} (K : Ex → Sm.St T → Option R) (c : List SSeg) (x : Int × Int) (J : (Int × Int) → Option R) : Option R :=
  laws_heldSegS_L2 n (fun (y0 : Int) => K (.exit 0) (stOf (T := T) [1] [] [.one (.int .i64)] [] (y0, ()) ())) (fun (y0 : Int) => K .ret (stOf (T := T) [4] [] [.one (.int .i64)] [] (y0, ()) ())) (fun z0 z1 => J (z0, z1)) c x.1 x.2
def laws_heldSegS_2_sp (n : Nat) : LSpec T := mkSpec T ⟨[], [0, 1, 5], []⟩ laws_heldSegS_2_sv laws_heldSegS_2_so (List SSeg) (Int × Int) laws_heldSegS_2_emb laws_heldSegS_2_prj (laws_heldSegS_2_b n)
noncomputable def laws_heldSegS_2_c : Code := ((loopCodes laws_heldSegS_code)[0]?).getD .skip
def laws_heldSegS_ann : Ann := fun id => bif Nat.beq id 3000002 then some ⟨[], [1], []⟩ else bif Nat.beq id 2000002 then some ⟨[], [4], []⟩ else none
def laws_heldSegS_Ls (n : Nat) : Nat → Option (LSpec T) := fun id => bif Nat.beq id 2 then some (laws_heldSegS_2_sp n) else none
theorem laws_heldSegS_2_le (n : Nat) : LoopEq (T := T) (Phi n 22) (laws_heldSegS_Ls n) laws_heldSegS_ann n laws_heldSegS_2_c (laws_heldSegS_2_sp n) := ⟨mkSpec_dec (fun y => rfl), fun c x => by kernel_rfl, fun K J c x => by kernel_rfl⟩
theorem laws_heldSegS_tie (n : Nat) (a0 : List SSeg) (k1 : Int) : evF (T := T) (Phi n 22) (laws_heldSegS_Ls n) laws_heldSegS_ann n Try.f57 (sg 57) [vA T 89 a0, vA T 3 k1] laws_heldSegS_dec = laws_heldSegS n a0 k1 := by kernel_rfl
theorem laws_heldSegS_lo (n : Nat) : LoopsOk (T := T) (Phi n 22) (laws_heldSegS_Ls n) laws_heldSegS_ann n laws_heldSegS_code := loopsOk_all (cs := [laws_heldSegS_2_c]) (by kernel_rfl) ⟨⟨_, by kernel_rfl, laws_heldSegS_2_le n⟩, trivial⟩
theorem laws_heldSegS_ok (n : Nat) : EntOk Try.prog (ents n) (laws_heldSegS_ent n) := by
  intro hs ar y hg h
  replace h : laws_heldSegS_D n ar = some y := h
  unfold laws_heldSegS_D at h
  replace h := ocons_some h
  obtain ⟨a0, r0, rfl, h⟩ := h
  replace h := ocons_some h
  obtain ⟨a1, r1, rfl, h⟩ := h
  replace h := onil_some h
  obtain ⟨rfl, h⟩ := h
  obtain ⟨a0, qh0, h⟩ := obind_some h
  obtain ⟨k1, qh1, h⟩ := obind_some h
  rw [argV_eq ok qh0, argV_eq ok qh1]
  exact call_of (phiE_nat _ _) hs ok mixed Try.func57 (c := laws_heldSegS_code) (by kernel_rfl) (laws_heldSegS_lo n) (by kernel_rfl) (by kernel_rfl) (by kernel_rfl) laws_heldSegS_de ((laws_heldSegS_tie n a0 k1).trans h)
noncomputable def laws_FnExactReadSegs_code : Code := match Try.f9.body with | some c => c | none => .skip
def laws_FnExactReadSegs_ann : Ann := fun id => none
def laws_FnExactReadSegs_Ls (n : Nat) : Nat → Option (LSpec T) := fun id => none
theorem laws_FnExactReadSegs_tie (n : Nat) (aText0 : ByteArray) : evF (T := T) (Phi n 23) (laws_FnExactReadSegs_Ls n) laws_FnExactReadSegs_ann n Try.f9 (sg 9) [vA T 9 aText0] laws_FnExactReadSegs_dec = laws_FnExactReadSegs n aText0 := by kernel_rfl
theorem laws_FnExactReadSegs_lo (n : Nat) : LoopsOk (T := T) (Phi n 23) (laws_FnExactReadSegs_Ls n) laws_FnExactReadSegs_ann n laws_FnExactReadSegs_code := loopsOk_all (cs := []) (by kernel_rfl) trivial
theorem laws_FnExactReadSegs_ok (n : Nat) : EntOk Try.prog (ents n) (laws_FnExactReadSegs_ent n) := by
  intro hs ar y hg h
  replace h : laws_FnExactReadSegs_D n ar = some y := h
  unfold laws_FnExactReadSegs_D at h
  replace h := ocons_some h
  obtain ⟨a0, r0, rfl, h⟩ := h
  replace h := onil_some h
  obtain ⟨rfl, h⟩ := h
  obtain ⟨aText0, qh0, h⟩ := obind_some h
  rw [argV_eq ok qh0]
  exact call_of (phiE_nat _ _) hs ok mixed Try.func9 (c := laws_FnExactReadSegs_code) (by kernel_rfl) (laws_FnExactReadSegs_lo n) (by kernel_rfl) (by kernel_rfl) (by kernel_rfl) laws_FnExactReadSegs_de ((laws_FnExactReadSegs_tie n aText0).trans h)
theorem entsOk (n : Nat) : EntsOk Try.prog (ents n) (ents n) := ⟨spec_l1In_ok n, spec_l21Head_ok n, spec_l21Mark_ok n, spec_ReadSegs_ok n, impl_capital_ok n, impl_ReadSegs_1_ok n, impl_plain_ok n, impl_marked_ok n, impl_own_string_ok n, impl_own_string_f142_ok n, impl_own_impl_Seg_ok n, impl_ReadSegs_ok n, laws_eqStringS_ok n, laws_eqStringSS_ok n, laws_eqSeg_ok n, laws_eqSegS_ok n, laws_markText_ok n, laws_markStringS_ok n, laws_markStringSS_ok n, laws_markSegS_ok n, laws_heldStringS_ok n, laws_heldStringSS_ok n, laws_heldSegS_ok n, laws_FnExactReadSegs_ok n, trivial⟩
theorem sem (n i : Nat) : SemOk (Phi n i) (CallOk Try.prog T) := phiE_ok (entsOk n) i
end Go.Sm.E9
