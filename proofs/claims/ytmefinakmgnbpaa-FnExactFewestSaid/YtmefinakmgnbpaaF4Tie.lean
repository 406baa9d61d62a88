import Derived.Test.YtmefinakmgnbpaaF4Tb
import Derived.Test.YtmefinakmgnbpaaEngD
import Derived.Test.YtmefinakmgnbpaaEngE
import Derived.Test.YtmefinakmgnbpaaLay
import Derived.KernelRfl
import Derived.Test.YtmefinakmgnbpaaF4TieA
/- Each function's code computes what the plain function computes. -/
set_option linter.unusedSimpArgs false
set_option linter.deprecated false
set_option linter.unusedSectionVars false
set_option linter.unusedVariables false
set_option maxRecDepth 100000
open Go Go.Proofs
noncomputable section
namespace Go.Sm.F4
def spec_Fewest_ann : Ann := fun id => bif Nat.beq id 3000004 then some ⟨[], [0, 1], []⟩ else bif Nat.beq id 2000004 then some ⟨[((.reg 4), 3000000, 67)], [4, 5], [3000000]⟩ else bif Nat.beq id 5000007 then some ⟨[], [0, 1, 6], []⟩ else bif Nat.beq id 2000007 then some ⟨[((.reg 4), 3000000, 67)], [4, 5], [3000000]⟩ else bif Nat.beq id 7000015 then some ⟨[((.reg 8), 3000001, 65)], [0, 1, 8], [3000001]⟩ else bif Nat.beq id 9000018 then some ⟨[((.reg 8), 3000001, 65)], [0, 1, 8, 9], [3000001]⟩ else bif Nat.beq id 11000021 then some ⟨[((.reg 8), 3000001, 65)], [0, 1, 8, 9, 10], [3000001]⟩ else none
def spec_Fewest_Ls (n : Nat) : Nat → Option (LSpec T) := fun id => bif Nat.beq id 4 then some (spec_Fewest_4_sp n) else bif Nat.beq id 7 then some (spec_Fewest_7_sp n) else bif Nat.beq id 15 then some (spec_Fewest_15_sp n) else bif Nat.beq id 18 then some (spec_Fewest_18_sp n) else bif Nat.beq id 21 then some (spec_Fewest_21_sp n) else none
theorem spec_Fewest_4_le (n : Nat) : LoopEq (T := T) (Phi n 26) (spec_Fewest_Ls n) spec_Fewest_ann n spec_Fewest_4_c (spec_Fewest_4_sp n) := ⟨mkSpec_dec (fun y => rfl), fun c x => by kernel_rfl, fun K J c x => by kernel_rfl⟩
theorem spec_Fewest_7_le (n : Nat) : LoopEq (T := T) (Phi n 26) (spec_Fewest_Ls n) spec_Fewest_ann n spec_Fewest_7_c (spec_Fewest_7_sp n) := ⟨mkSpec_dec (fun y => rfl), fun c x => by kernel_rfl, fun K J c x => by kernel_rfl⟩
theorem spec_Fewest_15_le (n : Nat) : LoopEq (T := T) (Phi n 26) (spec_Fewest_Ls n) spec_Fewest_ann n spec_Fewest_15_c (spec_Fewest_15_sp n) := ⟨mkSpec_dec (fun y => rfl), fun c x => by kernel_rfl, fun K J c x => by kernel_rfl⟩
theorem spec_Fewest_18_le (n : Nat) : LoopEq (T := T) (Phi n 26) (spec_Fewest_Ls n) spec_Fewest_ann n spec_Fewest_18_c (spec_Fewest_18_sp n) := ⟨mkSpec_dec (fun y => rfl), fun c x => by kernel_rfl, fun K J c x => by kernel_rfl⟩
theorem spec_Fewest_21_le (n : Nat) : LoopEq (T := T) (Phi n 26) (spec_Fewest_Ls n) spec_Fewest_ann n spec_Fewest_21_c (spec_Fewest_21_sp n) := ⟨mkSpec_dec (fun y => rfl), fun c x => by kernel_rfl, fun K J c x => by kernel_rfl⟩
theorem spec_Fewest_tie (n : Nat) (bays0 : List SHatch) (boxes1 : List SBox) : evF (T := T) (Phi n 26) (spec_Fewest_Ls n) spec_Fewest_ann n Try.f13 (sg 13) [vA T 47 bays0, vA T 49 boxes1] spec_Fewest_dec = spec_Fewest n bays0 boxes1 := by kernel_rfl
theorem spec_Fewest_lo (n : Nat) : LoopsOk (T := T) (Phi n 26) (spec_Fewest_Ls n) spec_Fewest_ann n spec_Fewest_code := loopsOk_all (cs := [spec_Fewest_4_c, spec_Fewest_7_c, spec_Fewest_15_c, spec_Fewest_18_c, spec_Fewest_21_c]) (by kernel_rfl) ⟨⟨_, by kernel_rfl, spec_Fewest_4_le n⟩, ⟨_, by kernel_rfl, spec_Fewest_7_le n⟩, ⟨_, by kernel_rfl, spec_Fewest_15_le n⟩, ⟨_, by kernel_rfl, spec_Fewest_18_le n⟩, ⟨_, by kernel_rfl, spec_Fewest_21_le n⟩, trivial⟩
theorem spec_Fewest_ok (n : Nat) : EntOk Try.prog (ents n) (spec_Fewest_ent n) := by
  intro hs ar y hg h
  replace h : spec_Fewest_D n ar = some y := h
  unfold spec_Fewest_D at h
  replace h := ocons_some h
  obtain ⟨a0, r0, rfl, h⟩ := h
  replace h := ocons_some h
  obtain ⟨a1, r1, rfl, h⟩ := h
  replace h := onil_some h
  obtain ⟨rfl, h⟩ := h
  obtain ⟨bays0, qh0, h⟩ := obind_some h
  obtain ⟨boxes1, qh1, h⟩ := obind_some h
  rw [argV_eq ok qh0, argV_eq ok qh1]
  exact call_of (phiE_nat _ _) hs ok mixed Try.func13 (c := spec_Fewest_code) (by kernel_rfl) (spec_Fewest_lo n) (by kernel_rfl) (by kernel_rfl) (by kernel_rfl) spec_Fewest_de ((spec_Fewest_tie n bays0 boxes1).trans h)
noncomputable def impl_in_code : Code := match Try.f69.body with | some c => c | none => .skip
def impl_in_ann : Ann := fun id => none
def impl_in_Ls (n : Nat) : Nat → Option (LSpec T) := fun id => none
theorem impl_in_tie (n : Nat) (n0 : Int) (least1 : Int) (most2 : Int) : evF (T := T) (Phi n 27) (impl_in_Ls n) impl_in_ann n Try.f69 (sg 69) [vA T 3 n0, vA T 3 least1, vA T 3 most2] impl_in_dec = impl_in n n0 least1 most2 := by kernel_rfl
theorem impl_in_lo (n : Nat) : LoopsOk (T := T) (Phi n 27) (impl_in_Ls n) impl_in_ann n impl_in_code := loopsOk_all (cs := []) (by kernel_rfl) trivial
theorem impl_in_ok (n : Nat) : EntOk Try.prog (ents n) (impl_in_ent n) := by
  intro hs ar y hg h
  replace h : impl_in_D n ar = some y := h
  unfold impl_in_D at h
  replace h := ocons_some h
  obtain ⟨a0, r0, rfl, h⟩ := h
  replace h := ocons_some h
  obtain ⟨a1, r1, rfl, h⟩ := h
  replace h := ocons_some h
  obtain ⟨a2, r2, rfl, h⟩ := h
  replace h := onil_some h
  obtain ⟨rfl, h⟩ := h
  obtain ⟨n0, qh0, h⟩ := obind_some h
  obtain ⟨least1, qh1, h⟩ := obind_some h
  obtain ⟨most2, qh2, h⟩ := obind_some h
  rw [argV_eq ok qh0, argV_eq ok qh1, argV_eq ok qh2]
  exact call_of (phiE_nat _ _) hs ok mixed Try.func69 (c := impl_in_code) (by kernel_rfl) (impl_in_lo n) (by kernel_rfl) (by kernel_rfl) (by kernel_rfl) impl_in_de ((impl_in_tie n n0 least1 most2).trans h)
noncomputable def impl_HatchesOk_1_code : Code := match Try.f99.body with | some c => c | none => .skip
def impl_HatchesOk_1_ann : Ann := fun id => none
def impl_HatchesOk_1_Ls (n : Nat) : Nat → Option (LSpec T) := fun id => none
theorem impl_HatchesOk_1_tie (n : Nat) (h0 : SHatch) : evF (T := T) (Phi n 28) (impl_HatchesOk_1_Ls n) impl_HatchesOk_1_ann n Try.f99 (sg 99) [vA T 96 h0] impl_HatchesOk_1_dec = impl_HatchesOk_1 n h0 := by kernel_rfl
theorem impl_HatchesOk_1_lo (n : Nat) : LoopsOk (T := T) (Phi n 28) (impl_HatchesOk_1_Ls n) impl_HatchesOk_1_ann n impl_HatchesOk_1_code := loopsOk_all (cs := []) (by kernel_rfl) trivial
theorem impl_HatchesOk_1_ok (n : Nat) : EntOk Try.prog (ents n) (impl_HatchesOk_1_ent n) := by
  intro hs ar y hg h
  replace h : impl_HatchesOk_1_D n ar = some y := h
  unfold impl_HatchesOk_1_D at h
  replace h := ocons_some h
  obtain ⟨a0, r0, rfl, h⟩ := h
  replace h := onil_some h
  obtain ⟨rfl, h⟩ := h
  obtain ⟨h0, qh0, h⟩ := obind_some h
  rw [argV_eq ok qh0]
  exact call_of (phiE_nat _ _) hs ok mixed Try.func99 (c := impl_HatchesOk_1_code) (by kernel_rfl) (impl_HatchesOk_1_lo n) (by kernel_rfl) (by kernel_rfl) (by kernel_rfl) impl_HatchesOk_1_de ((impl_HatchesOk_1_tie n h0).trans h)
noncomputable def sIndex_HatchesOk_1_code : Code := match Try.f117.body with | some c => c | none => .skip
def sIndex_HatchesOk_1_2_sv : List Sv := [.one (.arr 96), .one (.fn 99 []), .one (.int .i64), .one (.int .i64)]
def sIndex_HatchesOk_1_2_so : List So := []
def sIndex_HatchesOk_1_2_emb (c : List SHatch × Int) (x : Int) : EVs T sIndex_HatchesOk_1_2_sv × EOs T sIndex_HatchesOk_1_2_so := ((c.1, (), c.2, x, ()), ())
def sIndex_HatchesOk_1_2_prj (y : EVs T sIndex_HatchesOk_1_2_sv × EOs T sIndex_HatchesOk_1_2_so) : (List SHatch × Int) × Int := ((y.1.1, y.1.2.2.1), (y.1.2.2.2.1))
def sIndex_HatchesOk_1_2_b (n : Nat) {R : Type} (K : Ex → Sm.St T → Option R) (c : List SHatch × Int) (x : Int) (J : Int → Option R) : Option R :=
  sIndex_HatchesOk_1_L2 n (K (.exit 0) (stOf (T := T) [] [] [] [] () ())) (fun (y0 : Int) => K .ret (stOf (T := T) [4] [] [.one (.int .i64)] [] (y0, ()) ())) J c.1 c.2 x
def sIndex_HatchesOk_1_2_sp (n : Nat) : LSpec T := mkSpec T ⟨[], [0, 1, 7, 8], []⟩ sIndex_HatchesOk_1_2_sv sIndex_HatchesOk_1_2_so (List SHatch × Int) (Int) sIndex_HatchesOk_1_2_emb sIndex_HatchesOk_1_2_prj (sIndex_HatchesOk_1_2_b n)
noncomputable def sIndex_HatchesOk_1_2_c : Code := ((loopCodes sIndex_HatchesOk_1_code)[0]?).getD .skip
def sIndex_HatchesOk_1_ann : Ann := fun id => bif Nat.beq id 3000002 then some ⟨[], [], []⟩ else bif Nat.beq id 2000002 then some ⟨[], [4], []⟩ else none
def sIndex_HatchesOk_1_Ls (n : Nat) : Nat → Option (LSpec T) := fun id => bif Nat.beq id 2 then some (sIndex_HatchesOk_1_2_sp n) else none
theorem sIndex_HatchesOk_1_2_le (n : Nat) : LoopEq (T := T) (Phi n 29) (sIndex_HatchesOk_1_Ls n) sIndex_HatchesOk_1_ann n sIndex_HatchesOk_1_2_c (sIndex_HatchesOk_1_2_sp n) := ⟨mkSpec_dec (fun y => rfl), fun c x => by kernel_rfl, fun K J c x => by kernel_rfl⟩
theorem sIndex_HatchesOk_1_tie (n : Nat) (s0 : List SHatch) : evF (T := T) (Phi n 29) (sIndex_HatchesOk_1_Ls n) sIndex_HatchesOk_1_ann n Try.f117 (sg 117) [vA T 47 s0, .fn 99 []] sIndex_HatchesOk_1_dec = sIndex_HatchesOk_1 n s0 := by kernel_rfl
theorem sIndex_HatchesOk_1_lo (n : Nat) : LoopsOk (T := T) (Phi n 29) (sIndex_HatchesOk_1_Ls n) sIndex_HatchesOk_1_ann n sIndex_HatchesOk_1_code := loopsOk_all (cs := [sIndex_HatchesOk_1_2_c]) (by kernel_rfl) ⟨⟨_, by kernel_rfl, sIndex_HatchesOk_1_2_le n⟩, trivial⟩
theorem sIndex_HatchesOk_1_ok (n : Nat) : EntOk Try.prog (ents n) (sIndex_HatchesOk_1_ent n) := by
  intro hs ar y hg h
  replace h : sIndex_HatchesOk_1_D n ar = some y := h
  unfold sIndex_HatchesOk_1_D at h
  split at h
  · obtain ⟨s0, qh0, h⟩ := obind_some h
    rw [argV_eq ok qh0] at hg ⊢
    cases (show [_] = [99] from natsEq_eq hg)
    exact call_of (phiE_nat _ _) hs ok mixed Try.func117 (c := sIndex_HatchesOk_1_code) (by kernel_rfl) (sIndex_HatchesOk_1_lo n) (by kernel_rfl) (by kernel_rfl) (by kernel_rfl) sIndex_HatchesOk_1_de ((sIndex_HatchesOk_1_tie n s0).trans h)
  · cases h
noncomputable def sContains_HatchesOk_1_code : Code := match Try.f98.body with | some c => c | none => .skip
def sContains_HatchesOk_1_ann : Ann := fun id => none
def sContains_HatchesOk_1_Ls (n : Nat) : Nat → Option (LSpec T) := fun id => none
theorem sContains_HatchesOk_1_tie (n : Nat) (s0 : List SHatch) : evF (T := T) (Phi n 30) (sContains_HatchesOk_1_Ls n) sContains_HatchesOk_1_ann n Try.f98 (sg 98) [vA T 47 s0, .fn 99 []] sContains_HatchesOk_1_dec = sContains_HatchesOk_1 n s0 := by kernel_rfl
theorem sContains_HatchesOk_1_lo (n : Nat) : LoopsOk (T := T) (Phi n 30) (sContains_HatchesOk_1_Ls n) sContains_HatchesOk_1_ann n sContains_HatchesOk_1_code := loopsOk_all (cs := []) (by kernel_rfl) trivial
theorem sContains_HatchesOk_1_ok (n : Nat) : EntOk Try.prog (ents n) (sContains_HatchesOk_1_ent n) := by
  intro hs ar y hg h
  replace h : sContains_HatchesOk_1_D n ar = some y := h
  unfold sContains_HatchesOk_1_D at h
  split at h
  · obtain ⟨s0, qh0, h⟩ := obind_some h
    rw [argV_eq ok qh0] at hg ⊢
    cases (show [_] = [99] from natsEq_eq hg)
    exact call_of (phiE_nat _ _) hs ok mixed Try.func98 (c := sContains_HatchesOk_1_code) (by kernel_rfl) (sContains_HatchesOk_1_lo n) (by kernel_rfl) (by kernel_rfl) (by kernel_rfl) sContains_HatchesOk_1_de ((sContains_HatchesOk_1_tie n s0).trans h)
  · cases h
noncomputable def impl_HatchesOk_code : Code := match Try.f49.body with | some c => c | none => .skip
def impl_HatchesOk_ann : Ann := fun id => none
def impl_HatchesOk_Ls (n : Nat) : Nat → Option (LSpec T) := fun id => none
theorem impl_HatchesOk_tie (n : Nat) (bays0 : List SHatch) : evF (T := T) (Phi n 31) (impl_HatchesOk_Ls n) impl_HatchesOk_ann n Try.f49 (sg 49) [vA T 47 bays0] impl_HatchesOk_dec = impl_HatchesOk n bays0 := by kernel_rfl
theorem impl_HatchesOk_lo (n : Nat) : LoopsOk (T := T) (Phi n 31) (impl_HatchesOk_Ls n) impl_HatchesOk_ann n impl_HatchesOk_code := loopsOk_all (cs := []) (by kernel_rfl) trivial
theorem impl_HatchesOk_ok (n : Nat) : EntOk Try.prog (ents n) (impl_HatchesOk_ent n) := by
  intro hs ar y hg h
  replace h : impl_HatchesOk_D n ar = some y := h
  unfold impl_HatchesOk_D at h
  replace h := ocons_some h
  obtain ⟨a0, r0, rfl, h⟩ := h
  replace h := onil_some h
  obtain ⟨rfl, h⟩ := h
  obtain ⟨bays0, qh0, h⟩ := obind_some h
  rw [argV_eq ok qh0]
  exact call_of (phiE_nat _ _) hs ok mixed Try.func49 (c := impl_HatchesOk_code) (by kernel_rfl) (impl_HatchesOk_lo n) (by kernel_rfl) (by kernel_rfl) (by kernel_rfl) impl_HatchesOk_de ((impl_HatchesOk_tie n bays0).trans h)
noncomputable def impl_valueOf_code : Code := match Try.f128.body with | some c => c | none => .skip
def impl_valueOf_3_sv : List Sv := [.one (.int .u8), .one (.int .i64), .one (.int .u8)]
def impl_valueOf_3_so : List So := []
def impl_valueOf_3_emb (c : Int) (x : Int × Int) : EVs T impl_valueOf_3_sv × EOs T impl_valueOf_3_so := ((c, x.1, x.2, ()), ())
def impl_valueOf_3_prj (y : EVs T impl_valueOf_3_sv × EOs T impl_valueOf_3_so) : Int × (Int × Int) := ((y.1.1), (y.1.2.1, y.1.2.2.1))
def impl_valueOf_3_b (n : Nat) {R : Type} (K : Ex → Sm.St T → Option R) (c : Int) (x : Int × Int) (J : (Int × Int) → Option R) : Option R :=
  impl_valueOf_L3 n (fun (y0 : Int) => K (.exit 0) (stOf (T := T) [3] [] [.one (.int .i64)] [] (y0, ()) ())) (fun z0 z1 => J (z0, z1)) c x.1 x.2
def impl_valueOf_3_sp (n : Nat) : LSpec T := mkSpec T ⟨[], [0, 3, 4], []⟩ impl_valueOf_3_sv impl_valueOf_3_so (Int) (Int × Int) impl_valueOf_3_emb impl_valueOf_3_prj (impl_valueOf_3_b n)
noncomputable def impl_valueOf_3_c : Code := ((loopCodes impl_valueOf_code)[0]?).getD .skip
def impl_valueOf_ann : Ann := fun id => bif Nat.beq id 3000003 then some ⟨[], [3], []⟩ else none
def impl_valueOf_Ls (n : Nat) : Nat → Option (LSpec T) := fun id => bif Nat.beq id 3 then some (impl_valueOf_3_sp n) else none
theorem impl_valueOf_3_le (n : Nat) : LoopEq (T := T) (Phi n 32) (impl_valueOf_Ls n) impl_valueOf_ann n impl_valueOf_3_c (impl_valueOf_3_sp n) := ⟨mkSpec_dec (fun y => rfl), fun c x => by kernel_rfl, fun K J c x => by kernel_rfl⟩
theorem impl_valueOf_tie (n : Nat) (c0 : Int) : evF (T := T) (Phi n 32) (impl_valueOf_Ls n) impl_valueOf_ann n Try.f128 (sg 128) [vA T 5 c0] impl_valueOf_dec = impl_valueOf n c0 := by kernel_rfl
theorem impl_valueOf_lo (n : Nat) : LoopsOk (T := T) (Phi n 32) (impl_valueOf_Ls n) impl_valueOf_ann n impl_valueOf_code := loopsOk_all (cs := [impl_valueOf_3_c]) (by kernel_rfl) ⟨⟨_, by kernel_rfl, impl_valueOf_3_le n⟩, trivial⟩
theorem impl_valueOf_ok (n : Nat) : EntOk Try.prog (ents n) (impl_valueOf_ent n) := by
  intro hs ar y hg h
  replace h : impl_valueOf_D n ar = some y := h
  unfold impl_valueOf_D at h
  replace h := ocons_some h
  obtain ⟨a0, r0, rfl, h⟩ := h
  replace h := onil_some h
  obtain ⟨rfl, h⟩ := h
  obtain ⟨c0, qh0, h⟩ := obind_some h
  rw [argV_eq ok qh0]
  exact call_of (phiE_nat _ _) hs ok mixed Try.func128 (c := impl_valueOf_code) (by kernel_rfl) (impl_valueOf_lo n) (by kernel_rfl) (by kernel_rfl) (by kernel_rfl) impl_valueOf_de ((impl_valueOf_tie n c0).trans h)
noncomputable def impl_CheckDigit_code : Code := match Try.f118.body with | some c => c | none => .skip
def impl_CheckDigit_5_sv : List Sv := [.one (.str), .one (.int .i64), .one (.int .i64)]
def impl_CheckDigit_5_so : List So := []
def impl_CheckDigit_5_emb (c : ByteArray) (x : Int × Int) : EVs T impl_CheckDigit_5_sv × EOs T impl_CheckDigit_5_so := ((c, x.1, x.2, ()), ())
def impl_CheckDigit_5_prj (y : EVs T impl_CheckDigit_5_sv × EOs T impl_CheckDigit_5_so) : ByteArray × (Int × Int) := ((y.1.1), (y.1.2.1, y.1.2.2.1))
def impl_CheckDigit_5_b (n : Nat) {R : Type} (K : Ex → Sm.St T → Option R) (c : ByteArray) (x : Int × Int) (J : (Int × Int) → Option R) : Option R :=
  impl_CheckDigit_L5 n (fun (y0 : Int) => K (.exit 0) (stOf (T := T) [3] [] [.one (.int .i64)] [] (y0, ()) ())) (fun (y0 : Int) => K .ret (stOf (T := T) [2] [] [.one (.int .i64)] [] (y0, ()) ())) (fun z0 z1 => J (z0, z1)) c x.1 x.2
def impl_CheckDigit_5_sp (n : Nat) : LSpec T := mkSpec T ⟨[], [0, 3, 10], []⟩ impl_CheckDigit_5_sv impl_CheckDigit_5_so (ByteArray) (Int × Int) impl_CheckDigit_5_emb impl_CheckDigit_5_prj (impl_CheckDigit_5_b n)
noncomputable def impl_CheckDigit_5_c : Code := ((loopCodes impl_CheckDigit_code)[0]?).getD .skip
def impl_CheckDigit_ann : Ann := fun id => bif Nat.beq id 3000005 then some ⟨[], [3], []⟩ else bif Nat.beq id 2000005 then some ⟨[], [2], []⟩ else none
def impl_CheckDigit_Ls (n : Nat) : Nat → Option (LSpec T) := fun id => bif Nat.beq id 5 then some (impl_CheckDigit_5_sp n) else none
theorem impl_CheckDigit_5_le (n : Nat) : LoopEq (T := T) (Phi n 33) (impl_CheckDigit_Ls n) impl_CheckDigit_ann n impl_CheckDigit_5_c (impl_CheckDigit_5_sp n) := ⟨mkSpec_dec (fun y => rfl), fun c x => by kernel_rfl, fun K J c x => by kernel_rfl⟩
theorem impl_CheckDigit_tie (n : Nat) (name0 : ByteArray) : evF (T := T) (Phi n 33) (impl_CheckDigit_Ls n) impl_CheckDigit_ann n Try.f118 (sg 118) [vA T 9 name0] impl_CheckDigit_dec = impl_CheckDigit n name0 := by kernel_rfl
theorem impl_CheckDigit_lo (n : Nat) : LoopsOk (T := T) (Phi n 33) (impl_CheckDigit_Ls n) impl_CheckDigit_ann n impl_CheckDigit_code := loopsOk_all (cs := [impl_CheckDigit_5_c]) (by kernel_rfl) ⟨⟨_, by kernel_rfl, impl_CheckDigit_5_le n⟩, trivial⟩
theorem impl_CheckDigit_ok (n : Nat) : EntOk Try.prog (ents n) (impl_CheckDigit_ent n) := by
  intro hs ar y hg h
  replace h : impl_CheckDigit_D n ar = some y := h
  unfold impl_CheckDigit_D at h
  replace h := ocons_some h
  obtain ⟨a0, r0, rfl, h⟩ := h
  replace h := onil_some h
  obtain ⟨rfl, h⟩ := h
  obtain ⟨name0, qh0, h⟩ := obind_some h
  rw [argV_eq ok qh0]
  exact call_of (phiE_nat _ _) hs ok mixed Try.func118 (c := impl_CheckDigit_code) (by kernel_rfl) (impl_CheckDigit_lo n) (by kernel_rfl) (by kernel_rfl) (by kernel_rfl) impl_CheckDigit_de ((impl_CheckDigit_tie n name0).trans h)
noncomputable def impl_BoxName_code : Code := match Try.f100.body with | some c => c | none => .skip
def impl_BoxName_ann : Ann := fun id => none
def impl_BoxName_Ls (n : Nat) : Nat → Option (LSpec T) := fun id => none
theorem impl_BoxName_tie (n : Nat) (text0 : ByteArray) : evF (T := T) (Phi n 34) (impl_BoxName_Ls n) impl_BoxName_ann n Try.f100 (sg 100) [vA T 9 text0] impl_BoxName_dec = impl_BoxName n text0 := by kernel_rfl
theorem impl_BoxName_lo (n : Nat) : LoopsOk (T := T) (Phi n 34) (impl_BoxName_Ls n) impl_BoxName_ann n impl_BoxName_code := loopsOk_all (cs := []) (by kernel_rfl) trivial
theorem impl_BoxName_ok (n : Nat) : EntOk Try.prog (ents n) (impl_BoxName_ent n) := by
  intro hs ar y hg h
  replace h : impl_BoxName_D n ar = some y := h
  unfold impl_BoxName_D at h
  replace h := ocons_some h
  obtain ⟨a0, r0, rfl, h⟩ := h
  replace h := onil_some h
  obtain ⟨rfl, h⟩ := h
  obtain ⟨text0, qh0, h⟩ := obind_some h
  rw [argV_eq ok qh0]
  exact call_of (phiE_nat _ _) hs ok mixed Try.func100 (c := impl_BoxName_code) (by kernel_rfl) (impl_BoxName_lo n) (by kernel_rfl) (by kernel_rfl) (by kernel_rfl) impl_BoxName_de ((impl_BoxName_tie n text0).trans h)
noncomputable def impl_portOk_code : Code := match Try.f101.body with | some c => c | none => .skip
def impl_portOk_ann : Ann := fun id => none
def impl_portOk_Ls (n : Nat) : Nat → Option (LSpec T) := fun id => none
theorem impl_portOk_tie (n : Nat) (n0 : Int) : evF (T := T) (Phi n 35) (impl_portOk_Ls n) impl_portOk_ann n Try.f101 (sg 101) [vA T 3 n0] impl_portOk_dec = impl_portOk n n0 := by kernel_rfl
theorem impl_portOk_lo (n : Nat) : LoopsOk (T := T) (Phi n 35) (impl_portOk_Ls n) impl_portOk_ann n impl_portOk_code := loopsOk_all (cs := []) (by kernel_rfl) trivial
theorem impl_portOk_ok (n : Nat) : EntOk Try.prog (ents n) (impl_portOk_ent n) := by
  intro hs ar y hg h
  replace h : impl_portOk_D n ar = some y := h
  unfold impl_portOk_D at h
  replace h := ocons_some h
  obtain ⟨a0, r0, rfl, h⟩ := h
  replace h := onil_some h
  obtain ⟨rfl, h⟩ := h
  obtain ⟨n0, qh0, h⟩ := obind_some h
  rw [argV_eq ok qh0]
  exact call_of (phiE_nat _ _) hs ok mixed Try.func101 (c := impl_portOk_code) (by kernel_rfl) (impl_portOk_lo n) (by kernel_rfl) (by kernel_rfl) (by kernel_rfl) impl_portOk_de ((impl_portOk_tie n n0).trans h)
noncomputable def impl_BoxOk_code : Code := match Try.f50.body with | some c => c | none => .skip
def impl_BoxOk_ann : Ann := fun id => none
def impl_BoxOk_Ls (n : Nat) : Nat → Option (LSpec T) := fun id => none
theorem impl_BoxOk_tie (n : Nat) (b0 : SBox) : evF (T := T) (Phi n 36) (impl_BoxOk_Ls n) impl_BoxOk_ann n Try.f50 (sg 50) [vA T 63 b0] impl_BoxOk_dec = impl_BoxOk n b0 := by kernel_rfl
theorem impl_BoxOk_lo (n : Nat) : LoopsOk (T := T) (Phi n 36) (impl_BoxOk_Ls n) impl_BoxOk_ann n impl_BoxOk_code := loopsOk_all (cs := []) (by kernel_rfl) trivial
theorem impl_BoxOk_ok (n : Nat) : EntOk Try.prog (ents n) (impl_BoxOk_ent n) := by
  intro hs ar y hg h
  replace h : impl_BoxOk_D n ar = some y := h
  unfold impl_BoxOk_D at h
  replace h := ocons_some h
  obtain ⟨a0, r0, rfl, h⟩ := h
  replace h := onil_some h
  obtain ⟨rfl, h⟩ := h
  obtain ⟨b0, qh0, h⟩ := obind_some h
  rw [argV_eq ok qh0]
  exact call_of (phiE_nat _ _) hs ok mixed Try.func50 (c := impl_BoxOk_code) (by kernel_rfl) (impl_BoxOk_lo n) (by kernel_rfl) (by kernel_rfl) (by kernel_rfl) impl_BoxOk_de ((impl_BoxOk_tie n b0).trans h)
noncomputable def impl_Fewest_1_code : Code := match Try.f52.body with | some c => c | none => .skip
def impl_Fewest_1_ann : Ann := fun id => none
def impl_Fewest_1_Ls (n : Nat) : Nat → Option (LSpec T) := fun id => none
theorem impl_Fewest_1_tie (n : Nat) (x0 : SBox) (a1 : SBox) : evF (T := T) (Phi n 37) (impl_Fewest_1_Ls n) impl_Fewest_1_ann n Try.f52 (sg 52) [vA T 63 x0, .ptr 63 a1] impl_Fewest_1_dec = impl_Fewest_1 n x0 a1 := by kernel_rfl
theorem impl_Fewest_1_lo (n : Nat) : LoopsOk (T := T) (Phi n 37) (impl_Fewest_1_Ls n) impl_Fewest_1_ann n impl_Fewest_1_code := loopsOk_all (cs := []) (by kernel_rfl) trivial
theorem impl_Fewest_1_ok (n : Nat) : EntOk Try.prog (ents n) (impl_Fewest_1_ent n) := by
  intro hs ar y hg h
  replace h : impl_Fewest_1_D n ar = some y := h
  unfold impl_Fewest_1_D at h
  replace h := ocons_some h
  obtain ⟨a0, r0, rfl, h⟩ := h
  replace h := ocons_some h
  obtain ⟨a1, r1, rfl, h⟩ := h
  replace h := onil_some h
  obtain ⟨rfl, h⟩ := h
  obtain ⟨x0, qh0, h⟩ := obind_some h
  obtain ⟨a1, qh1, h⟩ := obind_some h
  rw [argV_eq ok qh0, argP_eq qh1]
  exact call_of (phiE_nat _ _) hs ok mixed Try.func52 (c := impl_Fewest_1_code) (by kernel_rfl) (impl_Fewest_1_lo n) (by kernel_rfl) (by kernel_rfl) (by kernel_rfl) impl_Fewest_1_de ((impl_Fewest_1_tie n x0 a1).trans h)
noncomputable def sIndex_Fewest_1_code : Code := match Try.f102.body with | some c => c | none => .skip
def sIndex_Fewest_1_2_sv : List Sv := [.one (.arr 63), .one (.fnr 52 [63]), .one (.int .i64), .one (.int .i64)]
def sIndex_Fewest_1_2_so : List So := []
def sIndex_Fewest_1_2_emb (c : List SBox × SBox × Int) (x : Int) : EVs T sIndex_Fewest_1_2_sv × EOs T sIndex_Fewest_1_2_so := ((c.1, (c.2.1, ()), c.2.2, x, ()), ())
def sIndex_Fewest_1_2_prj (y : EVs T sIndex_Fewest_1_2_sv × EOs T sIndex_Fewest_1_2_so) : (List SBox × SBox × Int) × Int := ((y.1.1, y.1.2.1.1, y.1.2.2.1), (y.1.2.2.2.1))
def sIndex_Fewest_1_2_b (n : Nat) {R : Type} (K : Ex → Sm.St T → Option R) (c : List SBox × SBox × Int) (x : Int) (J : Int → Option R) : Option R :=
  sIndex_Fewest_1_L2 n (K (.exit 0) (stOf (T := T) [] [] [] [] () ())) (fun (y0 : Int) => K .ret (stOf (T := T) [4] [] [.one (.int .i64)] [] (y0, ()) ())) J c.1 c.2.1 c.2.2 x
def sIndex_Fewest_1_2_sp (n : Nat) : LSpec T := mkSpec T ⟨[], [0, 1, 7, 8], []⟩ sIndex_Fewest_1_2_sv sIndex_Fewest_1_2_so (List SBox × SBox × Int) (Int) sIndex_Fewest_1_2_emb sIndex_Fewest_1_2_prj (sIndex_Fewest_1_2_b n)
noncomputable def sIndex_Fewest_1_2_c : Code := ((loopCodes sIndex_Fewest_1_code)[0]?).getD .skip
def sIndex_Fewest_1_ann : Ann := fun id => bif Nat.beq id 3000002 then some ⟨[], [], []⟩ else bif Nat.beq id 2000002 then some ⟨[], [4], []⟩ else none
def sIndex_Fewest_1_Ls (n : Nat) : Nat → Option (LSpec T) := fun id => bif Nat.beq id 2 then some (sIndex_Fewest_1_2_sp n) else none
theorem sIndex_Fewest_1_2_le (n : Nat) : LoopEq (T := T) (Phi n 38) (sIndex_Fewest_1_Ls n) sIndex_Fewest_1_ann n sIndex_Fewest_1_2_c (sIndex_Fewest_1_2_sp n) := ⟨mkSpec_dec (fun y => rfl), fun c x => by kernel_rfl, fun K J c x => by kernel_rfl⟩
theorem sIndex_Fewest_1_tie (n : Nat) (s0 : List SBox) (f1c0 : SBox) : evF (T := T) (Phi n 38) (sIndex_Fewest_1_Ls n) sIndex_Fewest_1_ann n Try.f102 (sg 102) [vA T 49 s0, .fn 52 [.ptr 63 f1c0]] sIndex_Fewest_1_dec = sIndex_Fewest_1 n s0 f1c0 := by kernel_rfl
theorem sIndex_Fewest_1_lo (n : Nat) : LoopsOk (T := T) (Phi n 38) (sIndex_Fewest_1_Ls n) sIndex_Fewest_1_ann n sIndex_Fewest_1_code := loopsOk_all (cs := [sIndex_Fewest_1_2_c]) (by kernel_rfl) ⟨⟨_, by kernel_rfl, sIndex_Fewest_1_2_le n⟩, trivial⟩
theorem sIndex_Fewest_1_ok (n : Nat) : EntOk Try.prog (ents n) (sIndex_Fewest_1_ent n) := by
  intro hs ar y hg h
  replace h : sIndex_Fewest_1_D n ar = some y := h
  unfold sIndex_Fewest_1_D at h
  split at h
  · obtain ⟨s0, qh0, h⟩ := obind_some h
    obtain ⟨f1c0, qh1, h⟩ := obind_some h
    rw [argV_eq ok qh0, argP_eq qh1] at hg ⊢
    cases (show [_] = [52] from natsEq_eq hg)
    exact call_of (phiE_nat _ _) hs ok mixed Try.func102 (c := sIndex_Fewest_1_code) (by kernel_rfl) (sIndex_Fewest_1_lo n) (by kernel_rfl) (by kernel_rfl) (by kernel_rfl) sIndex_Fewest_1_de ((sIndex_Fewest_1_tie n s0 f1c0).trans h)
  · cases h
noncomputable def sContains_Fewest_1_code : Code := match Try.f51.body with | some c => c | none => .skip
def sContains_Fewest_1_ann : Ann := fun id => none
def sContains_Fewest_1_Ls (n : Nat) : Nat → Option (LSpec T) := fun id => none
theorem sContains_Fewest_1_tie (n : Nat) (s0 : List SBox) (f1c0 : SBox) : evF (T := T) (Phi n 39) (sContains_Fewest_1_Ls n) sContains_Fewest_1_ann n Try.f51 (sg 51) [vA T 49 s0, .fn 52 [.ptr 63 f1c0]] sContains_Fewest_1_dec = sContains_Fewest_1 n s0 f1c0 := by kernel_rfl
theorem sContains_Fewest_1_lo (n : Nat) : LoopsOk (T := T) (Phi n 39) (sContains_Fewest_1_Ls n) sContains_Fewest_1_ann n sContains_Fewest_1_code := loopsOk_all (cs := []) (by kernel_rfl) trivial
theorem sContains_Fewest_1_ok (n : Nat) : EntOk Try.prog (ents n) (sContains_Fewest_1_ent n) := by
  intro hs ar y hg h
  replace h : sContains_Fewest_1_D n ar = some y := h
  unfold sContains_Fewest_1_D at h
  split at h
  · obtain ⟨s0, qh0, h⟩ := obind_some h
    obtain ⟨f1c0, qh1, h⟩ := obind_some h
    rw [argV_eq ok qh0, argP_eq qh1] at hg ⊢
    cases (show [_] = [52] from natsEq_eq hg)
    exact call_of (phiE_nat _ _) hs ok mixed Try.func51 (c := sContains_Fewest_1_code) (by kernel_rfl) (sContains_Fewest_1_lo n) (by kernel_rfl) (by kernel_rfl) (by kernel_rfl) sContains_Fewest_1_de ((sContains_Fewest_1_tie n s0 f1c0).trans h)
  · cases h
noncomputable def impl_StowCode_1_code : Code := match Try.f65.body with | some c => c | none => .skip
def impl_StowCode_1_ann : Ann := fun id => none
def impl_StowCode_1_Ls (n : Nat) : Nat → Option (LSpec T) := fun id => none
theorem impl_StowCode_1_tie (n : Nat) (_0 : Int) (s1 : SStow) : evF (T := T) (Phi n 40) (impl_StowCode_1_Ls n) impl_StowCode_1_ann n Try.f65 (sg 65) [vA T 3 _0, vA T 67 s1] impl_StowCode_1_dec = impl_StowCode_1 n _0 s1 := by kernel_rfl
theorem impl_StowCode_1_lo (n : Nat) : LoopsOk (T := T) (Phi n 40) (impl_StowCode_1_Ls n) impl_StowCode_1_ann n impl_StowCode_1_code := loopsOk_all (cs := []) (by kernel_rfl) trivial
theorem impl_StowCode_1_ok (n : Nat) : EntOk Try.prog (ents n) (impl_StowCode_1_ent n) := by
  intro hs ar y hg h
  replace h : impl_StowCode_1_D n ar = some y := h
  unfold impl_StowCode_1_D at h
  replace h := ocons_some h
  obtain ⟨a0, r0, rfl, h⟩ := h
  replace h := ocons_some h
  obtain ⟨a1, r1, rfl, h⟩ := h
  replace h := onil_some h
  obtain ⟨rfl, h⟩ := h
  obtain ⟨_0, qh0, h⟩ := obind_some h
  obtain ⟨s1, qh1, h⟩ := obind_some h
  rw [argV_eq ok qh0, argV_eq ok qh1]
  exact call_of (phiE_nat _ _) hs ok mixed Try.func65 (c := impl_StowCode_1_code) (by kernel_rfl) (impl_StowCode_1_lo n) (by kernel_rfl) (by kernel_rfl) (by kernel_rfl) impl_StowCode_1_de ((impl_StowCode_1_tie n _0 s1).trans h)
noncomputable def impl_StowCode_2_1_code : Code := match Try.f67.body with | some c => c | none => .skip
def impl_StowCode_2_1_ann : Ann := fun id => none
def impl_StowCode_2_1_Ls (n : Nat) : Nat → Option (LSpec T) := fun id => none
theorem impl_StowCode_2_1_tie (n : Nat) (x0 : SStow) (a1 : SStow) : evF (T := T) (Phi n 41) (impl_StowCode_2_1_Ls n) impl_StowCode_2_1_ann n Try.f67 (sg 67) [vA T 67 x0, .ptr 67 a1] impl_StowCode_2_1_dec = impl_StowCode_2_1 n x0 a1 := by kernel_rfl
theorem impl_StowCode_2_1_lo (n : Nat) : LoopsOk (T := T) (Phi n 41) (impl_StowCode_2_1_Ls n) impl_StowCode_2_1_ann n impl_StowCode_2_1_code := loopsOk_all (cs := []) (by kernel_rfl) trivial
theorem impl_StowCode_2_1_ok (n : Nat) : EntOk Try.prog (ents n) (impl_StowCode_2_1_ent n) := by
  intro hs ar y hg h
  replace h : impl_StowCode_2_1_D n ar = some y := h
  unfold impl_StowCode_2_1_D at h
  replace h := ocons_some h
  obtain ⟨a0, r0, rfl, h⟩ := h
  replace h := ocons_some h
  obtain ⟨a1, r1, rfl, h⟩ := h
  replace h := onil_some h
  obtain ⟨rfl, h⟩ := h
  obtain ⟨x0, qh0, h⟩ := obind_some h
  obtain ⟨a1, qh1, h⟩ := obind_some h
  rw [argV_eq ok qh0, argP_eq qh1]
  exact call_of (phiE_nat _ _) hs ok mixed Try.func67 (c := impl_StowCode_2_1_code) (by kernel_rfl) (impl_StowCode_2_1_lo n) (by kernel_rfl) (by kernel_rfl) (by kernel_rfl) impl_StowCode_2_1_de ((impl_StowCode_2_1_tie n x0 a1).trans h)
noncomputable def sIndex_StowCode_2_1_code : Code := match Try.f104.body with | some c => c | none => .skip
def sIndex_StowCode_2_1_2_sv : List Sv := [.one (.arr 67), .one (.fnr 67 [67]), .one (.int .i64), .one (.int .i64)]
def sIndex_StowCode_2_1_2_so : List So := []
def sIndex_StowCode_2_1_2_emb (c : List SStow × SStow × Int) (x : Int) : EVs T sIndex_StowCode_2_1_2_sv × EOs T sIndex_StowCode_2_1_2_so := ((c.1, (c.2.1, ()), c.2.2, x, ()), ())
def sIndex_StowCode_2_1_2_prj (y : EVs T sIndex_StowCode_2_1_2_sv × EOs T sIndex_StowCode_2_1_2_so) : (List SStow × SStow × Int) × Int := ((y.1.1, y.1.2.1.1, y.1.2.2.1), (y.1.2.2.2.1))
def sIndex_StowCode_2_1_2_b (n : Nat) {R : Type} (K : Ex → Sm.St T → Option R) (c : List SStow × SStow × Int) (x : Int) (J : Int → Option R) : Option R :=
  sIndex_StowCode_2_1_L2 n (K (.exit 0) (stOf (T := T) [] [] [] [] () ())) (fun (y0 : Int) => K .ret (stOf (T := T) [4] [] [.one (.int .i64)] [] (y0, ()) ())) J c.1 c.2.1 c.2.2 x
def sIndex_StowCode_2_1_2_sp (n : Nat) : LSpec T := mkSpec T ⟨[], [0, 1, 7, 8], []⟩ sIndex_StowCode_2_1_2_sv sIndex_StowCode_2_1_2_so (List SStow × SStow × Int) (Int) sIndex_StowCode_2_1_2_emb sIndex_StowCode_2_1_2_prj (sIndex_StowCode_2_1_2_b n)
noncomputable def sIndex_StowCode_2_1_2_c : Code := ((loopCodes sIndex_StowCode_2_1_code)[0]?).getD .skip
def sIndex_StowCode_2_1_ann : Ann := fun id => bif Nat.beq id 3000002 then some ⟨[], [], []⟩ else bif Nat.beq id 2000002 then some ⟨[], [4], []⟩ else none
def sIndex_StowCode_2_1_Ls (n : Nat) : Nat → Option (LSpec T) := fun id => bif Nat.beq id 2 then some (sIndex_StowCode_2_1_2_sp n) else none
theorem sIndex_StowCode_2_1_2_le (n : Nat) : LoopEq (T := T) (Phi n 42) (sIndex_StowCode_2_1_Ls n) sIndex_StowCode_2_1_ann n sIndex_StowCode_2_1_2_c (sIndex_StowCode_2_1_2_sp n) := ⟨mkSpec_dec (fun y => rfl), fun c x => by kernel_rfl, fun K J c x => by kernel_rfl⟩
theorem sIndex_StowCode_2_1_tie (n : Nat) (s0 : List SStow) (f1c0 : SStow) : evF (T := T) (Phi n 42) (sIndex_StowCode_2_1_Ls n) sIndex_StowCode_2_1_ann n Try.f104 (sg 104) [vA T 44 s0, .fn 67 [.ptr 67 f1c0]] sIndex_StowCode_2_1_dec = sIndex_StowCode_2_1 n s0 f1c0 := by kernel_rfl
theorem sIndex_StowCode_2_1_lo (n : Nat) : LoopsOk (T := T) (Phi n 42) (sIndex_StowCode_2_1_Ls n) sIndex_StowCode_2_1_ann n sIndex_StowCode_2_1_code := loopsOk_all (cs := [sIndex_StowCode_2_1_2_c]) (by kernel_rfl) ⟨⟨_, by kernel_rfl, sIndex_StowCode_2_1_2_le n⟩, trivial⟩
theorem sIndex_StowCode_2_1_ok (n : Nat) : EntOk Try.prog (ents n) (sIndex_StowCode_2_1_ent n) := by
  intro hs ar y hg h
  replace h : sIndex_StowCode_2_1_D n ar = some y := h
  unfold sIndex_StowCode_2_1_D at h
  split at h
  · obtain ⟨s0, qh0, h⟩ := obind_some h
    obtain ⟨f1c0, qh1, h⟩ := obind_some h
    rw [argV_eq ok qh0, argP_eq qh1] at hg ⊢
    cases (show [_] = [67] from natsEq_eq hg)
    exact call_of (phiE_nat _ _) hs ok mixed Try.func104 (c := sIndex_StowCode_2_1_code) (by kernel_rfl) (sIndex_StowCode_2_1_lo n) (by kernel_rfl) (by kernel_rfl) (by kernel_rfl) sIndex_StowCode_2_1_de ((sIndex_StowCode_2_1_tie n s0 f1c0).trans h)
  · cases h
noncomputable def sContains_StowCode_2_1_code : Code := match Try.f56.body with | some c => c | none => .skip
def sContains_StowCode_2_1_ann : Ann := fun id => none
def sContains_StowCode_2_1_Ls (n : Nat) : Nat → Option (LSpec T) := fun id => none
theorem sContains_StowCode_2_1_tie (n : Nat) (s0 : List SStow) (f1c0 : SStow) : evF (T := T) (Phi n 43) (sContains_StowCode_2_1_Ls n) sContains_StowCode_2_1_ann n Try.f56 (sg 56) [vA T 44 s0, .fn 67 [.ptr 67 f1c0]] sContains_StowCode_2_1_dec = sContains_StowCode_2_1 n s0 f1c0 := by kernel_rfl
theorem sContains_StowCode_2_1_lo (n : Nat) : LoopsOk (T := T) (Phi n 43) (sContains_StowCode_2_1_Ls n) sContains_StowCode_2_1_ann n sContains_StowCode_2_1_code := loopsOk_all (cs := []) (by kernel_rfl) trivial
theorem sContains_StowCode_2_1_ok (n : Nat) : EntOk Try.prog (ents n) (sContains_StowCode_2_1_ent n) := by
  intro hs ar y hg h
  replace h : sContains_StowCode_2_1_D n ar = some y := h
  unfold sContains_StowCode_2_1_D at h
  split at h
  · obtain ⟨s0, qh0, h⟩ := obind_some h
    obtain ⟨f1c0, qh1, h⟩ := obind_some h
    rw [argV_eq ok qh0, argP_eq qh1] at hg ⊢
    cases (show [_] = [67] from natsEq_eq hg)
    exact call_of (phiE_nat _ _) hs ok mixed Try.func56 (c := sContains_StowCode_2_1_code) (by kernel_rfl) (sContains_StowCode_2_1_lo n) (by kernel_rfl) (by kernel_rfl) (by kernel_rfl) sContains_StowCode_2_1_de ((sContains_StowCode_2_1_tie n s0 f1c0).trans h)
  · cases h
noncomputable def impl_StowCode_2_code : Code := match Try.f66.body with | some c => c | none => .skip
def impl_StowCode_2_ann : Ann := fun id => none
def impl_StowCode_2_Ls (n : Nat) : Nat → Option (LSpec T) := fun id => none
theorem impl_StowCode_2_tie (n : Nat) (i0 : Int) (s1 : SStow) (a2 : List SStow) : evF (T := T) (Phi n 44) (impl_StowCode_2_Ls n) impl_StowCode_2_ann n Try.f66 (sg 66) [vA T 3 i0, vA T 67 s1, .ptr 44 a2] impl_StowCode_2_dec = impl_StowCode_2 n i0 s1 a2 := by kernel_rfl
theorem impl_StowCode_2_lo (n : Nat) : LoopsOk (T := T) (Phi n 44) (impl_StowCode_2_Ls n) impl_StowCode_2_ann n impl_StowCode_2_code := loopsOk_all (cs := []) (by kernel_rfl) trivial
theorem impl_StowCode_2_ok (n : Nat) : EntOk Try.prog (ents n) (impl_StowCode_2_ent n) := by
  intro hs ar y hg h
  replace h : impl_StowCode_2_D n ar = some y := h
  unfold impl_StowCode_2_D at h
  replace h := ocons_some h
  obtain ⟨a0, r0, rfl, h⟩ := h
  replace h := ocons_some h
  obtain ⟨a1, r1, rfl, h⟩ := h
  replace h := ocons_some h
  obtain ⟨a2, r2, rfl, h⟩ := h
  replace h := onil_some h
  obtain ⟨rfl, h⟩ := h
  obtain ⟨i0, qh0, h⟩ := obind_some h
  obtain ⟨s1, qh1, h⟩ := obind_some h
  obtain ⟨a2, qh2, h⟩ := obind_some h
  rw [argV_eq ok qh0, argV_eq ok qh1, argP_eq qh2]
  exact call_of (phiE_nat _ _) hs ok mixed Try.func66 (c := impl_StowCode_2_code) (by kernel_rfl) (impl_StowCode_2_lo n) (by kernel_rfl) (by kernel_rfl) (by kernel_rfl) impl_StowCode_2_de ((impl_StowCode_2_tie n i0 s1 a2).trans h)
noncomputable def impl_StowCode_3_code : Code := match Try.f68.body with | some c => c | none => .skip
def impl_StowCode_3_ann : Ann := fun id => none
def impl_StowCode_3_Ls (n : Nat) : Nat → Option (LSpec T) := fun id => none
theorem impl_StowCode_3_tie (n : Nat) (_0 : Int) (s1 : SStow) (a2 : List SHatch) : evF (T := T) (Phi n 45) (impl_StowCode_3_Ls n) impl_StowCode_3_ann n Try.f68 (sg 68) [vA T 3 _0, vA T 67 s1, .ptr 47 a2] impl_StowCode_3_dec = impl_StowCode_3 n _0 s1 a2 := by kernel_rfl
theorem impl_StowCode_3_lo (n : Nat) : LoopsOk (T := T) (Phi n 45) (impl_StowCode_3_Ls n) impl_StowCode_3_ann n impl_StowCode_3_code := loopsOk_all (cs := []) (by kernel_rfl) trivial
theorem impl_StowCode_3_ok (n : Nat) : EntOk Try.prog (ents n) (impl_StowCode_3_ent n) := by
  intro hs ar y hg h
  replace h : impl_StowCode_3_D n ar = some y := h
  unfold impl_StowCode_3_D at h
  replace h := ocons_some h
  obtain ⟨a0, r0, rfl, h⟩ := h
  replace h := ocons_some h
  obtain ⟨a1, r1, rfl, h⟩ := h
  replace h := ocons_some h
  obtain ⟨a2, r2, rfl, h⟩ := h
  replace h := onil_some h
  obtain ⟨rfl, h⟩ := h
  obtain ⟨_0, qh0, h⟩ := obind_some h
  obtain ⟨s1, qh1, h⟩ := obind_some h
  obtain ⟨a2, qh2, h⟩ := obind_some h
  rw [argV_eq ok qh0, argV_eq ok qh1, argP_eq qh2]
  exact call_of (phiE_nat _ _) hs ok mixed Try.func68 (c := impl_StowCode_3_code) (by kernel_rfl) (impl_StowCode_3_lo n) (by kernel_rfl) (by kernel_rfl) (by kernel_rfl) impl_StowCode_3_de ((impl_StowCode_3_tie n _0 s1 a2).trans h)
noncomputable def impl_StowCode_4_1_code : Code := match Try.f71.body with | some c => c | none => .skip
def impl_StowCode_4_1_ann : Ann := fun id => none
def impl_StowCode_4_1_Ls (n : Nat) : Nat → Option (LSpec T) := fun id => none
theorem impl_StowCode_4_1_tie (n : Nat) (x0 : SStow) (a1 : SSpot) : evF (T := T) (Phi n 46) (impl_StowCode_4_1_Ls n) impl_StowCode_4_1_ann n Try.f71 (sg 71) [vA T 67 x0, .ptr 65 a1] impl_StowCode_4_1_dec = impl_StowCode_4_1 n x0 a1 := by kernel_rfl
theorem impl_StowCode_4_1_lo (n : Nat) : LoopsOk (T := T) (Phi n 46) (impl_StowCode_4_1_Ls n) impl_StowCode_4_1_ann n impl_StowCode_4_1_code := loopsOk_all (cs := []) (by kernel_rfl) trivial
theorem impl_StowCode_4_1_ok (n : Nat) : EntOk Try.prog (ents n) (impl_StowCode_4_1_ent n) := by
  intro hs ar y hg h
  replace h : impl_StowCode_4_1_D n ar = some y := h
  unfold impl_StowCode_4_1_D at h
  replace h := ocons_some h
  obtain ⟨a0, r0, rfl, h⟩ := h
  replace h := ocons_some h
  obtain ⟨a1, r1, rfl, h⟩ := h
  replace h := onil_some h
  obtain ⟨rfl, h⟩ := h
  obtain ⟨x0, qh0, h⟩ := obind_some h
  obtain ⟨a1, qh1, h⟩ := obind_some h
  rw [argV_eq ok qh0, argP_eq qh1]
  exact call_of (phiE_nat _ _) hs ok mixed Try.func71 (c := impl_StowCode_4_1_code) (by kernel_rfl) (impl_StowCode_4_1_lo n) (by kernel_rfl) (by kernel_rfl) (by kernel_rfl) impl_StowCode_4_1_de ((impl_StowCode_4_1_tie n x0 a1).trans h)
noncomputable def sIndex_StowCode_4_1_code : Code := match Try.f104.body with | some c => c | none => .skip
def sIndex_StowCode_4_1_2_sv : List Sv := [.one (.arr 67), .one (.fnr 71 [65]), .one (.int .i64), .one (.int .i64)]
def sIndex_StowCode_4_1_2_so : List So := []
def sIndex_StowCode_4_1_2_emb (c : List SStow × SSpot × Int) (x : Int) : EVs T sIndex_StowCode_4_1_2_sv × EOs T sIndex_StowCode_4_1_2_so := ((c.1, (c.2.1, ()), c.2.2, x, ()), ())
def sIndex_StowCode_4_1_2_prj (y : EVs T sIndex_StowCode_4_1_2_sv × EOs T sIndex_StowCode_4_1_2_so) : (List SStow × SSpot × Int) × Int := ((y.1.1, y.1.2.1.1, y.1.2.2.1), (y.1.2.2.2.1))
def sIndex_StowCode_4_1_2_b (n : Nat) {R : Type} (K : Ex → Sm.St T → Option R) (c : List SStow × SSpot × Int) (x : Int) (J : Int → Option R) : Option R :=
  sIndex_StowCode_4_1_L2 n (K (.exit 0) (stOf (T := T) [] [] [] [] () ())) (fun (y0 : Int) => K .ret (stOf (T := T) [4] [] [.one (.int .i64)] [] (y0, ()) ())) J c.1 c.2.1 c.2.2 x
def sIndex_StowCode_4_1_2_sp (n : Nat) : LSpec T := mkSpec T ⟨[], [0, 1, 7, 8], []⟩ sIndex_StowCode_4_1_2_sv sIndex_StowCode_4_1_2_so (List SStow × SSpot × Int) (Int) sIndex_StowCode_4_1_2_emb sIndex_StowCode_4_1_2_prj (sIndex_StowCode_4_1_2_b n)
noncomputable def sIndex_StowCode_4_1_2_c : Code := ((loopCodes sIndex_StowCode_4_1_code)[0]?).getD .skip
def sIndex_StowCode_4_1_ann : Ann := fun id => bif Nat.beq id 3000002 then some ⟨[], [], []⟩ else bif Nat.beq id 2000002 then some ⟨[], [4], []⟩ else none
def sIndex_StowCode_4_1_Ls (n : Nat) : Nat → Option (LSpec T) := fun id => bif Nat.beq id 2 then some (sIndex_StowCode_4_1_2_sp n) else none
theorem sIndex_StowCode_4_1_2_le (n : Nat) : LoopEq (T := T) (Phi n 47) (sIndex_StowCode_4_1_Ls n) sIndex_StowCode_4_1_ann n sIndex_StowCode_4_1_2_c (sIndex_StowCode_4_1_2_sp n) := ⟨mkSpec_dec (fun y => rfl), fun c x => by kernel_rfl, fun K J c x => by kernel_rfl⟩
theorem sIndex_StowCode_4_1_tie (n : Nat) (s0 : List SStow) (f1c0 : SSpot) : evF (T := T) (Phi n 47) (sIndex_StowCode_4_1_Ls n) sIndex_StowCode_4_1_ann n Try.f104 (sg 104) [vA T 44 s0, .fn 71 [.ptr 65 f1c0]] sIndex_StowCode_4_1_dec = sIndex_StowCode_4_1 n s0 f1c0 := by kernel_rfl
theorem sIndex_StowCode_4_1_lo (n : Nat) : LoopsOk (T := T) (Phi n 47) (sIndex_StowCode_4_1_Ls n) sIndex_StowCode_4_1_ann n sIndex_StowCode_4_1_code := loopsOk_all (cs := [sIndex_StowCode_4_1_2_c]) (by kernel_rfl) ⟨⟨_, by kernel_rfl, sIndex_StowCode_4_1_2_le n⟩, trivial⟩
theorem sIndex_StowCode_4_1_ok (n : Nat) : EntOk Try.prog (ents n) (sIndex_StowCode_4_1_ent n) := by
  intro hs ar y hg h
  replace h : sIndex_StowCode_4_1_D n ar = some y := h
  unfold sIndex_StowCode_4_1_D at h
  split at h
  · obtain ⟨s0, qh0, h⟩ := obind_some h
    obtain ⟨f1c0, qh1, h⟩ := obind_some h
    rw [argV_eq ok qh0, argP_eq qh1] at hg ⊢
    cases (show [_] = [71] from natsEq_eq hg)
    exact call_of (phiE_nat _ _) hs ok mixed Try.func104 (c := sIndex_StowCode_4_1_code) (by kernel_rfl) (sIndex_StowCode_4_1_lo n) (by kernel_rfl) (by kernel_rfl) (by kernel_rfl) sIndex_StowCode_4_1_de ((sIndex_StowCode_4_1_tie n s0 f1c0).trans h)
  · cases h
noncomputable def sContains_StowCode_4_1_code : Code := match Try.f56.body with | some c => c | none => .skip
def sContains_StowCode_4_1_ann : Ann := fun id => none
def sContains_StowCode_4_1_Ls (n : Nat) : Nat → Option (LSpec T) := fun id => none
theorem sContains_StowCode_4_1_tie (n : Nat) (s0 : List SStow) (f1c0 : SSpot) : evF (T := T) (Phi n 48) (sContains_StowCode_4_1_Ls n) sContains_StowCode_4_1_ann n Try.f56 (sg 56) [vA T 44 s0, .fn 71 [.ptr 65 f1c0]] sContains_StowCode_4_1_dec = sContains_StowCode_4_1 n s0 f1c0 := by kernel_rfl
theorem sContains_StowCode_4_1_lo (n : Nat) : LoopsOk (T := T) (Phi n 48) (sContains_StowCode_4_1_Ls n) sContains_StowCode_4_1_ann n sContains_StowCode_4_1_code := loopsOk_all (cs := []) (by kernel_rfl) trivial
theorem sContains_StowCode_4_1_ok (n : Nat) : EntOk Try.prog (ents n) (sContains_StowCode_4_1_ent n) := by
  intro hs ar y hg h
  replace h : sContains_StowCode_4_1_D n ar = some y := h
  unfold sContains_StowCode_4_1_D at h
  split at h
  · obtain ⟨s0, qh0, h⟩ := obind_some h
    obtain ⟨f1c0, qh1, h⟩ := obind_some h
    rw [argV_eq ok qh0, argP_eq qh1] at hg ⊢
    cases (show [_] = [71] from natsEq_eq hg)
    exact call_of (phiE_nat _ _) hs ok mixed Try.func56 (c := sContains_StowCode_4_1_code) (by kernel_rfl) (sContains_StowCode_4_1_lo n) (by kernel_rfl) (by kernel_rfl) (by kernel_rfl) sContains_StowCode_4_1_de ((sContains_StowCode_4_1_tie n s0 f1c0).trans h)
  · cases h
noncomputable def impl_StowCode_4_code : Code := match Try.f70.body with | some c => c | none => .skip
def impl_StowCode_4_ann : Ann := fun id => none
def impl_StowCode_4_Ls (n : Nat) : Nat → Option (LSpec T) := fun id => none
theorem impl_StowCode_4_tie (n : Nat) (_0 : Int) (s1 : SStow) (a2 : List SStow) : evF (T := T) (Phi n 49) (impl_StowCode_4_Ls n) impl_StowCode_4_ann n Try.f70 (sg 70) [vA T 3 _0, vA T 67 s1, .ptr 44 a2] impl_StowCode_4_dec = impl_StowCode_4 n _0 s1 a2 := by kernel_rfl
theorem impl_StowCode_4_lo (n : Nat) : LoopsOk (T := T) (Phi n 49) (impl_StowCode_4_Ls n) impl_StowCode_4_ann n impl_StowCode_4_code := loopsOk_all (cs := []) (by kernel_rfl) trivial
theorem impl_StowCode_4_ok (n : Nat) : EntOk Try.prog (ents n) (impl_StowCode_4_ent n) := by
  intro hs ar y hg h
  replace h : impl_StowCode_4_D n ar = some y := h
  unfold impl_StowCode_4_D at h
  replace h := ocons_some h
  obtain ⟨a0, r0, rfl, h⟩ := h
  replace h := ocons_some h
  obtain ⟨a1, r1, rfl, h⟩ := h
  replace h := ocons_some h
  obtain ⟨a2, r2, rfl, h⟩ := h
  replace h := onil_some h
  obtain ⟨rfl, h⟩ := h
  obtain ⟨_0, qh0, h⟩ := obind_some h
  obtain ⟨s1, qh1, h⟩ := obind_some h
  obtain ⟨a2, qh2, h⟩ := obind_some h
  rw [argV_eq ok qh0, argV_eq ok qh1, argP_eq qh2]
  exact call_of (phiE_nat _ _) hs ok mixed Try.func70 (c := impl_StowCode_4_code) (by kernel_rfl) (impl_StowCode_4_lo n) (by kernel_rfl) (by kernel_rfl) (by kernel_rfl) impl_StowCode_4_de ((impl_StowCode_4_tie n _0 s1 a2).trans h)
noncomputable def cmp_isNaN_int_code : Code := match Try.f122.body with | some c => c | none => .skip
def cmp_isNaN_int_ann : Ann := fun id => none
def cmp_isNaN_int_Ls (n : Nat) : Nat → Option (LSpec T) := fun id => none
theorem cmp_isNaN_int_tie (n : Nat) (x0 : Int) : evF (T := T) (Phi n 50) (cmp_isNaN_int_Ls n) cmp_isNaN_int_ann n Try.f122 (sg 122) [vA T 3 x0] cmp_isNaN_int_dec = cmp_isNaN_int n x0 := by kernel_rfl
theorem cmp_isNaN_int_lo (n : Nat) : LoopsOk (T := T) (Phi n 50) (cmp_isNaN_int_Ls n) cmp_isNaN_int_ann n cmp_isNaN_int_code := loopsOk_all (cs := []) (by kernel_rfl) trivial
theorem cmp_isNaN_int_ok (n : Nat) : EntOk Try.prog (ents n) (cmp_isNaN_int_ent n) := by
  intro hs ar y hg h
  replace h : cmp_isNaN_int_D n ar = some y := h
  unfold cmp_isNaN_int_D at h
  replace h := ocons_some h
  obtain ⟨a0, r0, rfl, h⟩ := h
  replace h := onil_some h
  obtain ⟨rfl, h⟩ := h
  obtain ⟨x0, qh0, h⟩ := obind_some h
  rw [argV_eq ok qh0]
  exact call_of (phiE_nat _ _) hs ok mixed Try.func122 (c := cmp_isNaN_int_code) (by kernel_rfl) (cmp_isNaN_int_lo n) (by kernel_rfl) (by kernel_rfl) (by kernel_rfl) cmp_isNaN_int_de ((cmp_isNaN_int_tie n x0).trans h)
noncomputable def cmp_Compare_int_code : Code := match Try.f110.body with | some c => c | none => .skip
def cmp_Compare_int_ann : Ann := fun id => none
def cmp_Compare_int_Ls (n : Nat) : Nat → Option (LSpec T) := fun id => none
theorem cmp_Compare_int_tie (n : Nat) (x0 : Int) (y1 : Int) : evF (T := T) (Phi n 51) (cmp_Compare_int_Ls n) cmp_Compare_int_ann n Try.f110 (sg 110) [vA T 3 x0, vA T 3 y1] cmp_Compare_int_dec = cmp_Compare_int n x0 y1 := by kernel_rfl
theorem cmp_Compare_int_lo (n : Nat) : LoopsOk (T := T) (Phi n 51) (cmp_Compare_int_Ls n) cmp_Compare_int_ann n cmp_Compare_int_code := loopsOk_all (cs := []) (by kernel_rfl) trivial
theorem cmp_Compare_int_ok (n : Nat) : EntOk Try.prog (ents n) (cmp_Compare_int_ent n) := by
  intro hs ar y hg h
  replace h : cmp_Compare_int_D n ar = some y := h
  unfold cmp_Compare_int_D at h
  replace h := ocons_some h
  obtain ⟨a0, r0, rfl, h⟩ := h
  replace h := ocons_some h
  obtain ⟨a1, r1, rfl, h⟩ := h
  replace h := onil_some h
  obtain ⟨rfl, h⟩ := h
  obtain ⟨x0, qh0, h⟩ := obind_some h
  obtain ⟨y1, qh1, h⟩ := obind_some h
  rw [argV_eq ok qh0, argV_eq ok qh1]
  exact call_of (phiE_nat _ _) hs ok mixed Try.func110 (c := cmp_Compare_int_code) (by kernel_rfl) (cmp_Compare_int_lo n) (by kernel_rfl) (by kernel_rfl) (by kernel_rfl) cmp_Compare_int_de ((cmp_Compare_int_tie n x0 y1).trans h)
noncomputable def impl_stackOf_1_code : Code := match Try.f109.body with | some c => c | none => .skip
def impl_stackOf_1_ann : Ann := fun id => none
def impl_stackOf_1_Ls (n : Nat) : Nat → Option (LSpec T) := fun id => none
theorem impl_stackOf_1_tie (n : Nat) (a0 : SStow) (b1 : SStow) : evF (T := T) (Phi n 52) (impl_stackOf_1_Ls n) impl_stackOf_1_ann n Try.f109 (sg 109) [vA T 67 a0, vA T 67 b1] impl_stackOf_1_dec = impl_stackOf_1 n a0 b1 := by kernel_rfl
theorem impl_stackOf_1_lo (n : Nat) : LoopsOk (T := T) (Phi n 52) (impl_stackOf_1_Ls n) impl_stackOf_1_ann n impl_stackOf_1_code := loopsOk_all (cs := []) (by kernel_rfl) trivial
theorem impl_stackOf_1_ok (n : Nat) : EntOk Try.prog (ents n) (impl_stackOf_1_ent n) := by
  intro hs ar y hg h
  replace h : impl_stackOf_1_D n ar = some y := h
  unfold impl_stackOf_1_D at h
  replace h := ocons_some h
  obtain ⟨a0, r0, rfl, h⟩ := h
  replace h := ocons_some h
  obtain ⟨a1, r1, rfl, h⟩ := h
  replace h := onil_some h
  obtain ⟨rfl, h⟩ := h
  obtain ⟨a0, qh0, h⟩ := obind_some h
  obtain ⟨b1, qh1, h⟩ := obind_some h
  rw [argV_eq ok qh0, argV_eq ok qh1]
  exact call_of (phiE_nat _ _) hs ok mixed Try.func109 (c := impl_stackOf_1_code) (by kernel_rfl) (impl_stackOf_1_lo n) (by kernel_rfl) (by kernel_rfl) (by kernel_rfl) impl_stackOf_1_de ((impl_stackOf_1_tie n a0 b1).trans h)
theorem sSort_stackOf_1_cl (n : Nat) (x y : U 67) : PhiE (T := T) (ents n) 53 109 [vA T 67 x, vA T 67 y] some = (impl_stackOf_1 n x y).bind fun r => some (impl_stackOf_1_enc r) := by kernel_rfl
theorem sSort_stackOf_1_ok (n : Nat) : EntOk Try.prog (ents n) (sSort_stackOf_1_ent n) := by
  intro hs ar y hg h
  replace h : sSort_stackOf_1_D n ar = some y := h
  unfold sSort_stackOf_1_D at h
  split at h
  · obtain ⟨l0, qh0, h⟩ := obind_some h
    rw [argV_eq ok qh0] at hg ⊢
    cases (show [_] = [109] from natsEq_eq hg)
    refine sortL_call ok lay108 (e := 67) (g := 109) (caps := []) (by kernel_rfl) (by kernel_rfl) (by decide) (by kernel_rfl) (by kernel_rfl) (by kernel_rfl) (by kernel_rfl) (fun x y c hc => ?_) h
    have h1 : PhiE (T := T) (ents n) 53 109 [vA T 67 x, vA T 67 y] some = some (impl_stackOf_1_enc c) := (sSort_stackOf_1_cl n x y).trans (by rw [show impl_stackOf_1 n x y = some c from hc]; rfl)
    obtain ⟨res, h2, h3⟩ := hs _ _ _ _ h1
    cases h3
    exact h2
  · cases h
noncomputable def impl_stackOf_code : Code := match Try.f74.body with | some c => c | none => .skip
def impl_stackOf_3_sv : List Sv := [.one (.int .i64), .one (.int .i64), .one (.own 3000000 67 false), .one (.arr 67), .one (.int .i64), .one (.int .i64)]
def impl_stackOf_3_so : List So := [.arr 67 false]
def impl_stackOf_3_emb (c : Int × Int × List SStow × Int) (x : Int × List SStow) : EVs T impl_stackOf_3_sv × EOs T impl_stackOf_3_so := ((c.1, c.2.1, (), c.2.2.1, c.2.2.2, x.1, ()), (x.2, ()))
def impl_stackOf_3_prj (y : EVs T impl_stackOf_3_sv × EOs T impl_stackOf_3_so) : (Int × Int × List SStow × Int) × (Int × List SStow) := ((y.1.1, y.1.2.1, y.1.2.2.2.1, y.1.2.2.2.2.1), (y.1.2.2.2.2.2.1, y.2.1))
def impl_stackOf_3_b (n : Nat) {R : Type} (K : Ex → Sm.St T → Option R) (c : Int × Int × List SStow × Int) (x : Int × List SStow) (J : (Int × List SStow) → Option R) : Option R :=
  impl_stackOf_L3 n (fun (y0 : List SStow) => K (.exit 0) (stOf (T := T) [7] [3000000] [.one (.own 3000000 67 false)] [.arr 67 false] ((), ()) (y0, ()))) (fun z0 z1 => J (z0, z1)) c.1 c.2.1 c.2.2.1 c.2.2.2 x.1 x.2
def impl_stackOf_3_sp (n : Nat) : LSpec T := mkSpec T ⟨[((.reg 7), 3000000, 67)], [1, 2, 7, 13, 14, 15], [3000000]⟩ impl_stackOf_3_sv impl_stackOf_3_so (Int × Int × List SStow × Int) (Int × List SStow) impl_stackOf_3_emb impl_stackOf_3_prj (impl_stackOf_3_b n)
noncomputable def impl_stackOf_3_c : Code := ((loopCodes impl_stackOf_code)[0]?).getD .skip
def impl_stackOf_11_sv : List Sv := [.one (.own 3000001 63 false), .one (.own 3000002 67 false), .one (.int .i64), .one (.int .i64)]
def impl_stackOf_11_so : List So := [.arr 63 false, .arr 67 false]
def impl_stackOf_11_emb (c : Int × List SStow) (x : Int × List SBox) : EVs T impl_stackOf_11_sv × EOs T impl_stackOf_11_so := (((), (), c.1, x.1, ()), (x.2, c.2, ()))
def impl_stackOf_11_prj (y : EVs T impl_stackOf_11_sv × EOs T impl_stackOf_11_so) : (Int × List SStow) × (Int × List SBox) := ((y.1.2.2.1, y.2.2.1), (y.1.2.2.2.1, y.2.1))
def impl_stackOf_11_b (n : Nat) {R : Type} (K : Ex → Sm.St T → Option R) (c : Int × List SStow) (x : Int × List SBox) (J : (Int × List SBox) → Option R) : Option R :=
  impl_stackOf_L11 n (fun (y0 : List SBox) => K (.exit 2) (stOf (T := T) [10] [3000001] [.one (.own 3000001 63 false)] [.arr 63 false] ((), ()) (y0, ()))) (fun z0 z1 => J (z0, z1)) c.1 x.1 x.2 c.2
def impl_stackOf_11_sp (n : Nat) : LSpec T := mkSpec T ⟨[((.reg 10), 3000001, 63), ((.reg 38), 3000002, 67)], [10, 38, 39, 40], [3000001, 3000002]⟩ impl_stackOf_11_sv impl_stackOf_11_so (Int × List SStow) (Int × List SBox) impl_stackOf_11_emb impl_stackOf_11_prj (impl_stackOf_11_b n)
noncomputable def impl_stackOf_11_c : Code := ((loopCodes impl_stackOf_code)[1]?).getD .skip
def impl_stackOf_ann : Ann := fun id => bif Nat.beq id 3000003 then some ⟨[((.reg 7), 3000000, 67)], [7], [3000000]⟩ else bif Nat.beq id 5000011 then some ⟨[((.reg 10), 3000001, 63)], [10], [3000001]⟩ else none
def impl_stackOf_Ls (n : Nat) : Nat → Option (LSpec T) := fun id => bif Nat.beq id 3 then some (impl_stackOf_3_sp n) else bif Nat.beq id 11 then some (impl_stackOf_11_sp n) else none
theorem impl_stackOf_3_le (n : Nat) : LoopEq (T := T) (Phi n 54) (impl_stackOf_Ls n) impl_stackOf_ann n impl_stackOf_3_c (impl_stackOf_3_sp n) := ⟨mkSpec_dec (fun y => rfl), fun c x => by kernel_rfl, fun K J c x => by kernel_rfl⟩
theorem impl_stackOf_11_le (n : Nat) : LoopEq (T := T) (Phi n 54) (impl_stackOf_Ls n) impl_stackOf_ann n impl_stackOf_11_c (impl_stackOf_11_sp n) := ⟨mkSpec_dec (fun y => rfl), fun c x => by kernel_rfl, fun K J c x => by kernel_rfl⟩
theorem impl_stackOf_tie (n : Nat) (list0 : List SStow) (bay1 : Int) (row2 : Int) : evF (T := T) (Phi n 54) (impl_stackOf_Ls n) impl_stackOf_ann n Try.f74 (sg 74) [vA T 44 list0, vA T 3 bay1, vA T 3 row2] impl_stackOf_dec = impl_stackOf n list0 bay1 row2 := by kernel_rfl
theorem impl_stackOf_lo (n : Nat) : LoopsOk (T := T) (Phi n 54) (impl_stackOf_Ls n) impl_stackOf_ann n impl_stackOf_code := loopsOk_all (cs := [impl_stackOf_3_c, impl_stackOf_11_c]) (by kernel_rfl) ⟨⟨_, by kernel_rfl, impl_stackOf_3_le n⟩, ⟨_, by kernel_rfl, impl_stackOf_11_le n⟩, trivial⟩
theorem impl_stackOf_ok (n : Nat) : EntOk Try.prog (ents n) (impl_stackOf_ent n) := by
  intro hs ar y hg h
  replace h : impl_stackOf_D n ar = some y := h
  unfold impl_stackOf_D at h
  replace h := ocons_some h
  obtain ⟨a0, r0, rfl, h⟩ := h
  replace h := ocons_some h
  obtain ⟨a1, r1, rfl, h⟩ := h
  replace h := ocons_some h
  obtain ⟨a2, r2, rfl, h⟩ := h
  replace h := onil_some h
  obtain ⟨rfl, h⟩ := h
  obtain ⟨list0, qh0, h⟩ := obind_some h
  obtain ⟨bay1, qh1, h⟩ := obind_some h
  obtain ⟨row2, qh2, h⟩ := obind_some h
  rw [argV_eq ok qh0, argV_eq ok qh1, argV_eq ok qh2]
  exact call_of (phiE_nat _ _) hs ok mixed Try.func74 (c := impl_stackOf_code) (by kernel_rfl) (impl_stackOf_lo n) (by kernel_rfl) (by kernel_rfl) (by kernel_rfl) impl_stackOf_de ((impl_stackOf_tie n list0 bay1 row2).trans h)
noncomputable def impl_StackOk_code : Code := match Try.f73.body with | some c => c | none => .skip
def impl_StackOk_5_sv : List Sv := [.one (.arr 63), .one (.int .i64), .one (.int .i64), .one (.arr 63), .one (.int .i64), .one (.int .i64)]
def impl_StackOk_5_so : List So := []
def impl_StackOk_5_emb (c : List SBox × Int × List SBox × Int) (x : Int × Int) : EVs T impl_StackOk_5_sv × EOs T impl_StackOk_5_so := ((c.1, c.2.1, x.1, c.2.2.1, c.2.2.2, x.2, ()), ())
def impl_StackOk_5_prj (y : EVs T impl_StackOk_5_sv × EOs T impl_StackOk_5_so) : (List SBox × Int × List SBox × Int) × (Int × Int) := ((y.1.1, y.1.2.1, y.1.2.2.2.1, y.1.2.2.2.2.1), (y.1.2.2.1, y.1.2.2.2.2.2.1))
def impl_StackOk_5_b (n : Nat) {R : Type} (K : Ex → Sm.St T → Option R) (c : List SBox × Int × List SBox × Int) (x : Int × Int) (J : (Int × Int) → Option R) : Option R :=
  impl_StackOk_L5 n (fun (y1 : Int) => K (.exit 0) (stOf (T := T) [1, 5] [] [.one (.int .i64), .one (.int .i64)] [] (c.2.1, y1, ()) ())) (fun (y0 : Bool) => K .ret (stOf (T := T) [4] [] [.one (.bool)] [] (y0, ()) ())) (fun z0 z1 => J (z0, z1)) c.1 c.2.1 x.1 c.2.2.1 c.2.2.2 x.2
def impl_StackOk_5_sp (n : Nat) : LSpec T := mkSpec T ⟨[], [0, 1, 5, 16, 17, 18], []⟩ impl_StackOk_5_sv impl_StackOk_5_so (List SBox × Int × List SBox × Int) (Int × Int) impl_StackOk_5_emb impl_StackOk_5_prj (impl_StackOk_5_b n)
noncomputable def impl_StackOk_5_c : Code := ((loopCodes impl_StackOk_code)[0]?).getD .skip
def impl_StackOk_ann : Ann := fun id => bif Nat.beq id 3000005 then some ⟨[], [1, 5], []⟩ else bif Nat.beq id 2000005 then some ⟨[], [4], []⟩ else none
def impl_StackOk_Ls (n : Nat) : Nat → Option (LSpec T) := fun id => bif Nat.beq id 5 then some (impl_StackOk_5_sp n) else none
theorem impl_StackOk_5_le (n : Nat) : LoopEq (T := T) (Phi n 55) (impl_StackOk_Ls n) impl_StackOk_ann n impl_StackOk_5_c (impl_StackOk_5_sp n) := ⟨mkSpec_dec (fun y => rfl), fun c x => by kernel_rfl, fun K J c x => by kernel_rfl⟩
theorem impl_StackOk_tie (n : Nat) (boxes0 : List SBox) (most1 : Int) : evF (T := T) (Phi n 55) (impl_StackOk_Ls n) impl_StackOk_ann n Try.f73 (sg 73) [vA T 49 boxes0, vA T 3 most1] impl_StackOk_dec = impl_StackOk n boxes0 most1 := by kernel_rfl
theorem impl_StackOk_lo (n : Nat) : LoopsOk (T := T) (Phi n 55) (impl_StackOk_Ls n) impl_StackOk_ann n impl_StackOk_code := loopsOk_all (cs := [impl_StackOk_5_c]) (by kernel_rfl) ⟨⟨_, by kernel_rfl, impl_StackOk_5_le n⟩, trivial⟩
theorem impl_StackOk_ok (n : Nat) : EntOk Try.prog (ents n) (impl_StackOk_ent n) := by
  intro hs ar y hg h
  replace h : impl_StackOk_D n ar = some y := h
  unfold impl_StackOk_D at h
  replace h := ocons_some h
  obtain ⟨a0, r0, rfl, h⟩ := h
  replace h := ocons_some h
  obtain ⟨a1, r1, rfl, h⟩ := h
  replace h := onil_some h
  obtain ⟨rfl, h⟩ := h
  obtain ⟨boxes0, qh0, h⟩ := obind_some h
  obtain ⟨most1, qh1, h⟩ := obind_some h
  rw [argV_eq ok qh0, argV_eq ok qh1]
  exact call_of (phiE_nat _ _) hs ok mixed Try.func73 (c := impl_StackOk_code) (by kernel_rfl) (impl_StackOk_lo n) (by kernel_rfl) (by kernel_rfl) (by kernel_rfl) impl_StackOk_de ((impl_StackOk_tie n boxes0 most1).trans h)
noncomputable def impl_StowCode_5_code : Code := match Try.f72.body with | some c => c | none => .skip
def impl_StowCode_5_ann : Ann := fun id => none
def impl_StowCode_5_Ls (n : Nat) : Nat → Option (LSpec T) := fun id => none
theorem impl_StowCode_5_tie (n : Nat) (_0 : Int) (s1 : SStow) (a2 : List SStow) (a3 : List SHatch) : evF (T := T) (Phi n 56) (impl_StowCode_5_Ls n) impl_StowCode_5_ann n Try.f72 (sg 72) [vA T 3 _0, vA T 67 s1, .ptr 44 a2, .ptr 47 a3] impl_StowCode_5_dec = impl_StowCode_5 n _0 s1 a2 a3 := by kernel_rfl
theorem impl_StowCode_5_lo (n : Nat) : LoopsOk (T := T) (Phi n 56) (impl_StowCode_5_Ls n) impl_StowCode_5_ann n impl_StowCode_5_code := loopsOk_all (cs := []) (by kernel_rfl) trivial
theorem impl_StowCode_5_ok (n : Nat) : EntOk Try.prog (ents n) (impl_StowCode_5_ent n) := by
  intro hs ar y hg h
  replace h : impl_StowCode_5_D n ar = some y := h
  unfold impl_StowCode_5_D at h
  replace h := ocons_some h
  obtain ⟨a0, r0, rfl, h⟩ := h
  replace h := ocons_some h
  obtain ⟨a1, r1, rfl, h⟩ := h
  replace h := ocons_some h
  obtain ⟨a2, r2, rfl, h⟩ := h
  replace h := ocons_some h
  obtain ⟨a3, r3, rfl, h⟩ := h
  replace h := onil_some h
  obtain ⟨rfl, h⟩ := h
  obtain ⟨_0, qh0, h⟩ := obind_some h
  obtain ⟨s1, qh1, h⟩ := obind_some h
  obtain ⟨a2, qh2, h⟩ := obind_some h
  obtain ⟨a3, qh3, h⟩ := obind_some h
  rw [argV_eq ok qh0, argV_eq ok qh1, argP_eq qh2, argP_eq qh3]
  exact call_of (phiE_nat _ _) hs ok mixed Try.func72 (c := impl_StowCode_5_code) (by kernel_rfl) (impl_StowCode_5_lo n) (by kernel_rfl) (by kernel_rfl) (by kernel_rfl) impl_StowCode_5_de ((impl_StowCode_5_tie n _0 s1 a2 a3).trans h)
noncomputable def impl_StowCode_6_code : Code := match Try.f75.body with | some c => c | none => .skip
def impl_StowCode_6_3_sv : List Sv := [.one (.rptr 47 0), .one (.ptr 40 0 0), .one (.int .i64), .one (.arr 67), .one (.int .i64), .one (.int .i64)]
def impl_StowCode_6_3_so : List So := [.var [.str, .int .i64, .int .i64, .bool, .int .i64, .int .i64, .int .i64, .int .i64, .int .i64]]
def impl_StowCode_6_3_emb (c : List SHatch × List SStow × Int × SStow) (x : Int × Int) : EVs T impl_StowCode_6_3_sv × EOs T impl_StowCode_6_3_so := ((c.1, (), x.1, c.2.1, c.2.2.1, x.2, ()), ((c.2.2.2.Box.Name, c.2.2.2.Box.Weight, c.2.2.2.Box.Class, c.2.2.2.Box.Cold, c.2.2.2.Box.From, c.2.2.2.Box.To, c.2.2.2.Spot.Bay, c.2.2.2.Spot.Row, c.2.2.2.Spot.Tier, ()), ()))
def impl_StowCode_6_3_prj (y : EVs T impl_StowCode_6_3_sv × EOs T impl_StowCode_6_3_so) : (List SHatch × List SStow × Int × SStow) × (Int × Int) := ((y.1.1, y.1.2.2.2.1, y.1.2.2.2.2.1, ((⟨(⟨y.2.1.1, y.2.1.2.1, y.2.1.2.2.1, y.2.1.2.2.2.1, y.2.1.2.2.2.2.1, y.2.1.2.2.2.2.2.1⟩ : SBox), (⟨y.2.1.2.2.2.2.2.2.1, y.2.1.2.2.2.2.2.2.2.1, y.2.1.2.2.2.2.2.2.2.2.1⟩ : SSpot)⟩ : SStow) : SStow)), (y.1.2.2.1, y.1.2.2.2.2.2.1))
def impl_StowCode_6_3_b (n : Nat) {R : Type} (K : Ex → Sm.St T → Option R) (c : List SHatch × List SStow × Int × SStow) (x : Int × Int) (J : (Int × Int) → Option R) : Option R :=
  impl_StowCode_6_L3 n (fun (y1 : Int) => K (.exit 0) (stOf (T := T) [3, 5, 7] [40] [.one (.rptr 47 0), .one (.ptr 40 0 0), .one (.int .i64)] [.var [.str, .int .i64, .int .i64, .bool, .int .i64, .int .i64, .int .i64, .int .i64, .int .i64]] (c.1, (), y1, ()) ((c.2.2.2.Box.Name, c.2.2.2.Box.Weight, c.2.2.2.Box.Class, c.2.2.2.Box.Cold, c.2.2.2.Box.From, c.2.2.2.Box.To, c.2.2.2.Spot.Bay, c.2.2.2.Spot.Row, c.2.2.2.Spot.Tier, ()), ()))) (fun z0 z1 => J (z0, z1)) c.1 x.1 c.2.1 c.2.2.1 x.2 c.2.2.2
def impl_StowCode_6_3_sp (n : Nat) : LSpec T := mkSpec T ⟨[], [3, 5, 7, 10, 11, 12], [40]⟩ impl_StowCode_6_3_sv impl_StowCode_6_3_so (List SHatch × List SStow × Int × SStow) (Int × Int) impl_StowCode_6_3_emb impl_StowCode_6_3_prj (impl_StowCode_6_3_b n)
noncomputable def impl_StowCode_6_3_c : Code := ((loopCodes impl_StowCode_6_code)[0]?).getD .skip
def impl_StowCode_6_ann : Ann := fun id => bif Nat.beq id 3000003 then some ⟨[], [3, 5, 7], [40]⟩ else none
def impl_StowCode_6_Ls (n : Nat) : Nat → Option (LSpec T) := fun id => bif Nat.beq id 3 then some (impl_StowCode_6_3_sp n) else none
theorem impl_StowCode_6_3_le (n : Nat) : LoopEq (T := T) (Phi n 57) (impl_StowCode_6_Ls n) impl_StowCode_6_ann n impl_StowCode_6_3_c (impl_StowCode_6_3_sp n) := ⟨mkSpec_dec (fun y => rfl), fun c x => by kernel_rfl, fun K J c x => by kernel_rfl⟩
theorem impl_StowCode_6_tie (n : Nat) (_0 : Int) (s1 : SStow) (a2 : List SStow) (a3 : List SHatch) : evF (T := T) (Phi n 57) (impl_StowCode_6_Ls n) impl_StowCode_6_ann n Try.f75 (sg 75) [vA T 3 _0, vA T 67 s1, .ptr 44 a2, .ptr 47 a3] impl_StowCode_6_dec = impl_StowCode_6 n _0 s1 a2 a3 := by kernel_rfl
theorem impl_StowCode_6_lo (n : Nat) : LoopsOk (T := T) (Phi n 57) (impl_StowCode_6_Ls n) impl_StowCode_6_ann n impl_StowCode_6_code := loopsOk_all (cs := [impl_StowCode_6_3_c]) (by kernel_rfl) ⟨⟨_, by kernel_rfl, impl_StowCode_6_3_le n⟩, trivial⟩
theorem impl_StowCode_6_ok (n : Nat) : EntOk Try.prog (ents n) (impl_StowCode_6_ent n) := by
  intro hs ar y hg h
  replace h : impl_StowCode_6_D n ar = some y := h
  unfold impl_StowCode_6_D at h
  replace h := ocons_some h
  obtain ⟨a0, r0, rfl, h⟩ := h
  replace h := ocons_some h
  obtain ⟨a1, r1, rfl, h⟩ := h
  replace h := ocons_some h
  obtain ⟨a2, r2, rfl, h⟩ := h
  replace h := ocons_some h
  obtain ⟨a3, r3, rfl, h⟩ := h
  replace h := onil_some h
  obtain ⟨rfl, h⟩ := h
  obtain ⟨_0, qh0, h⟩ := obind_some h
  obtain ⟨s1, qh1, h⟩ := obind_some h
  obtain ⟨a2, qh2, h⟩ := obind_some h
  obtain ⟨a3, qh3, h⟩ := obind_some h
  rw [argV_eq ok qh0, argV_eq ok qh1, argP_eq qh2, argP_eq qh3]
  exact call_of (phiE_nat _ _) hs ok mixed Try.func75 (c := impl_StowCode_6_code) (by kernel_rfl) (impl_StowCode_6_lo n) (by kernel_rfl) (by kernel_rfl) (by kernel_rfl) impl_StowCode_6_de ((impl_StowCode_6_tie n _0 s1 a2 a3).trans h)
noncomputable def impl_spotOk_code : Code := match Try.f111.body with | some c => c | none => .skip
def impl_spotOk_ann : Ann := fun id => none
def impl_spotOk_Ls (n : Nat) : Nat → Option (LSpec T) := fun id => none
theorem impl_spotOk_tie (n : Nat) (s0 : SSpot) : evF (T := T) (Phi n 58) (impl_spotOk_Ls n) impl_spotOk_ann n Try.f111 (sg 111) [vA T 65 s0] impl_spotOk_dec = impl_spotOk n s0 := by kernel_rfl
theorem impl_spotOk_lo (n : Nat) : LoopsOk (T := T) (Phi n 58) (impl_spotOk_Ls n) impl_spotOk_ann n impl_spotOk_code := loopsOk_all (cs := []) (by kernel_rfl) trivial
theorem impl_spotOk_ok (n : Nat) : EntOk Try.prog (ents n) (impl_spotOk_ent n) := by
  intro hs ar y hg h
  replace h : impl_spotOk_D n ar = some y := h
  unfold impl_spotOk_D at h
  replace h := ocons_some h
  obtain ⟨a0, r0, rfl, h⟩ := h
  replace h := onil_some h
  obtain ⟨rfl, h⟩ := h
  obtain ⟨s0, qh0, h⟩ := obind_some h
  rw [argV_eq ok qh0]
  exact call_of (phiE_nat _ _) hs ok mixed Try.func111 (c := impl_spotOk_code) (by kernel_rfl) (impl_spotOk_lo n) (by kernel_rfl) (by kernel_rfl) (by kernel_rfl) impl_spotOk_de ((impl_spotOk_tie n s0).trans h)
noncomputable def impl_size_code : Code := match Try.f112.body with | some c => c | none => .skip
def impl_size_ann : Ann := fun id => none
def impl_size_Ls (n : Nat) : Nat → Option (LSpec T) := fun id => none
theorem impl_size_tie (n : Nat) (n0 : Int) : evF (T := T) (Phi n 59) (impl_size_Ls n) impl_size_ann n Try.f112 (sg 112) [vA T 3 n0] impl_size_dec = impl_size n n0 := by kernel_rfl
theorem impl_size_lo (n : Nat) : LoopsOk (T := T) (Phi n 59) (impl_size_Ls n) impl_size_ann n impl_size_code := loopsOk_all (cs := []) (by kernel_rfl) trivial
theorem impl_size_ok (n : Nat) : EntOk Try.prog (ents n) (impl_size_ent n) := by
  intro hs ar y hg h
  replace h : impl_size_D n ar = some y := h
  unfold impl_size_D at h
  replace h := ocons_some h
  obtain ⟨a0, r0, rfl, h⟩ := h
  replace h := onil_some h
  obtain ⟨rfl, h⟩ := h
  obtain ⟨n0, qh0, h⟩ := obind_some h
  rw [argV_eq ok qh0]
  exact call_of (phiE_nat _ _) hs ok mixed Try.func112 (c := impl_size_code) (by kernel_rfl) (impl_size_lo n) (by kernel_rfl) (by kernel_rfl) (by kernel_rfl) impl_size_de ((impl_size_tie n n0).trans h)
noncomputable def impl_Apart_code : Code := match Try.f113.body with | some c => c | none => .skip
def impl_Apart_ann : Ann := fun id => none
def impl_Apart_Ls (n : Nat) : Nat → Option (LSpec T) := fun id => none
theorem impl_Apart_tie (n : Nat) (a0 : Int) (b1 : Int) : evF (T := T) (Phi n 60) (impl_Apart_Ls n) impl_Apart_ann n Try.f113 (sg 113) [vA T 3 a0, vA T 3 b1] impl_Apart_dec = impl_Apart n a0 b1 := by kernel_rfl
theorem impl_Apart_lo (n : Nat) : LoopsOk (T := T) (Phi n 60) (impl_Apart_Ls n) impl_Apart_ann n impl_Apart_code := loopsOk_all (cs := []) (by kernel_rfl) trivial
theorem impl_Apart_ok (n : Nat) : EntOk Try.prog (ents n) (impl_Apart_ent n) := by
  intro hs ar y hg h
  replace h : impl_Apart_D n ar = some y := h
  unfold impl_Apart_D at h
  replace h := ocons_some h
  obtain ⟨a0, r0, rfl, h⟩ := h
  replace h := ocons_some h
  obtain ⟨a1, r1, rfl, h⟩ := h
  replace h := onil_some h
  obtain ⟨rfl, h⟩ := h
  obtain ⟨a0, qh0, h⟩ := obind_some h
  obtain ⟨b1, qh1, h⟩ := obind_some h
  rw [argV_eq ok qh0, argV_eq ok qh1]
  exact call_of (phiE_nat _ _) hs ok mixed Try.func113 (c := impl_Apart_code) (by kernel_rfl) (impl_Apart_lo n) (by kernel_rfl) (by kernel_rfl) (by kernel_rfl) impl_Apart_de ((impl_Apart_tie n a0 b1).trans h)
noncomputable def impl_KeepsApart_code : Code := match Try.f78.body with | some c => c | none => .skip
def impl_KeepsApart_ann : Ann := fun id => none
def impl_KeepsApart_Ls (n : Nat) : Nat → Option (LSpec T) := fun id => none
theorem impl_KeepsApart_tie (n : Nat) (a0 : SBox) (sa1 : SSpot) (b2 : SBox) (sb3 : SSpot) : evF (T := T) (Phi n 61) (impl_KeepsApart_Ls n) impl_KeepsApart_ann n Try.f78 (sg 78) [vA T 63 a0, vA T 65 sa1, vA T 63 b2, vA T 65 sb3] impl_KeepsApart_dec = impl_KeepsApart n a0 sa1 b2 sb3 := by kernel_rfl
theorem impl_KeepsApart_lo (n : Nat) : LoopsOk (T := T) (Phi n 61) (impl_KeepsApart_Ls n) impl_KeepsApart_ann n impl_KeepsApart_code := loopsOk_all (cs := []) (by kernel_rfl) trivial
theorem impl_KeepsApart_ok (n : Nat) : EntOk Try.prog (ents n) (impl_KeepsApart_ent n) := by
  intro hs ar y hg h
  replace h : impl_KeepsApart_D n ar = some y := h
  unfold impl_KeepsApart_D at h
  replace h := ocons_some h
  obtain ⟨a0, r0, rfl, h⟩ := h
  replace h := ocons_some h
  obtain ⟨a1, r1, rfl, h⟩ := h
  replace h := ocons_some h
  obtain ⟨a2, r2, rfl, h⟩ := h
  replace h := ocons_some h
  obtain ⟨a3, r3, rfl, h⟩ := h
  replace h := onil_some h
  obtain ⟨rfl, h⟩ := h
  obtain ⟨a0, qh0, h⟩ := obind_some h
  obtain ⟨sa1, qh1, h⟩ := obind_some h
  obtain ⟨b2, qh2, h⟩ := obind_some h
  obtain ⟨sb3, qh3, h⟩ := obind_some h
  rw [argV_eq ok qh0, argV_eq ok qh1, argV_eq ok qh2, argV_eq ok qh3]
  exact call_of (phiE_nat _ _) hs ok mixed Try.func78 (c := impl_KeepsApart_code) (by kernel_rfl) (impl_KeepsApart_lo n) (by kernel_rfl) (by kernel_rfl) (by kernel_rfl) impl_KeepsApart_de ((impl_KeepsApart_tie n a0 sa1 b2 sb3).trans h)
noncomputable def impl_StowCode_7_1_code : Code := match Try.f77.body with | some c => c | none => .skip
def impl_StowCode_7_1_ann : Ann := fun id => none
def impl_StowCode_7_1_Ls (n : Nat) : Nat → Option (LSpec T) := fun id => none
theorem impl_StowCode_7_1_tie (n : Nat) (x0 : SStow) (a1 : SStow) : evF (T := T) (Phi n 62) (impl_StowCode_7_1_Ls n) impl_StowCode_7_1_ann n Try.f77 (sg 77) [vA T 67 x0, .ptr 67 a1] impl_StowCode_7_1_dec = impl_StowCode_7_1 n x0 a1 := by kernel_rfl
theorem impl_StowCode_7_1_lo (n : Nat) : LoopsOk (T := T) (Phi n 62) (impl_StowCode_7_1_Ls n) impl_StowCode_7_1_ann n impl_StowCode_7_1_code := loopsOk_all (cs := []) (by kernel_rfl) trivial
theorem impl_StowCode_7_1_ok (n : Nat) : EntOk Try.prog (ents n) (impl_StowCode_7_1_ent n) := by
  intro hs ar y hg h
  replace h : impl_StowCode_7_1_D n ar = some y := h
  unfold impl_StowCode_7_1_D at h
  replace h := ocons_some h
  obtain ⟨a0, r0, rfl, h⟩ := h
  replace h := ocons_some h
  obtain ⟨a1, r1, rfl, h⟩ := h
  replace h := onil_some h
  obtain ⟨rfl, h⟩ := h
  obtain ⟨x0, qh0, h⟩ := obind_some h
  obtain ⟨a1, qh1, h⟩ := obind_some h
  rw [argV_eq ok qh0, argP_eq qh1]
  exact call_of (phiE_nat _ _) hs ok mixed Try.func77 (c := impl_StowCode_7_1_code) (by kernel_rfl) (impl_StowCode_7_1_lo n) (by kernel_rfl) (by kernel_rfl) (by kernel_rfl) impl_StowCode_7_1_de ((impl_StowCode_7_1_tie n x0 a1).trans h)
noncomputable def sIndex_StowCode_7_1_code : Code := match Try.f104.body with | some c => c | none => .skip
def sIndex_StowCode_7_1_2_sv : List Sv := [.one (.arr 67), .one (.fnr 77 [67]), .one (.int .i64), .one (.int .i64)]
def sIndex_StowCode_7_1_2_so : List So := []
def sIndex_StowCode_7_1_2_emb (c : List SStow × SStow × Int) (x : Int) : EVs T sIndex_StowCode_7_1_2_sv × EOs T sIndex_StowCode_7_1_2_so := ((c.1, (c.2.1, ()), c.2.2, x, ()), ())
def sIndex_StowCode_7_1_2_prj (y : EVs T sIndex_StowCode_7_1_2_sv × EOs T sIndex_StowCode_7_1_2_so) : (List SStow × SStow × Int) × Int := ((y.1.1, y.1.2.1.1, y.1.2.2.1), (y.1.2.2.2.1))
def sIndex_StowCode_7_1_2_b (n : Nat) {R : Type} (K : Ex → Sm.St T → Option R) (c : List SStow × SStow × Int) (x : Int) (J : Int → Option R) : Option R :=
  sIndex_StowCode_7_1_L2 n (K (.exit 0) (stOf (T := T) [] [] [] [] () ())) (fun (y0 : Int) => K .ret (stOf (T := T) [4] [] [.one (.int .i64)] [] (y0, ()) ())) J c.1 c.2.1 c.2.2 x
def sIndex_StowCode_7_1_2_sp (n : Nat) : LSpec T := mkSpec T ⟨[], [0, 1, 7, 8], []⟩ sIndex_StowCode_7_1_2_sv sIndex_StowCode_7_1_2_so (List SStow × SStow × Int) (Int) sIndex_StowCode_7_1_2_emb sIndex_StowCode_7_1_2_prj (sIndex_StowCode_7_1_2_b n)
noncomputable def sIndex_StowCode_7_1_2_c : Code := ((loopCodes sIndex_StowCode_7_1_code)[0]?).getD .skip
def sIndex_StowCode_7_1_ann : Ann := fun id => bif Nat.beq id 3000002 then some ⟨[], [], []⟩ else bif Nat.beq id 2000002 then some ⟨[], [4], []⟩ else none
def sIndex_StowCode_7_1_Ls (n : Nat) : Nat → Option (LSpec T) := fun id => bif Nat.beq id 2 then some (sIndex_StowCode_7_1_2_sp n) else none
theorem sIndex_StowCode_7_1_2_le (n : Nat) : LoopEq (T := T) (Phi n 63) (sIndex_StowCode_7_1_Ls n) sIndex_StowCode_7_1_ann n sIndex_StowCode_7_1_2_c (sIndex_StowCode_7_1_2_sp n) := ⟨mkSpec_dec (fun y => rfl), fun c x => by kernel_rfl, fun K J c x => by kernel_rfl⟩
theorem sIndex_StowCode_7_1_tie (n : Nat) (s0 : List SStow) (f1c0 : SStow) : evF (T := T) (Phi n 63) (sIndex_StowCode_7_1_Ls n) sIndex_StowCode_7_1_ann n Try.f104 (sg 104) [vA T 44 s0, .fn 77 [.ptr 67 f1c0]] sIndex_StowCode_7_1_dec = sIndex_StowCode_7_1 n s0 f1c0 := by kernel_rfl
theorem sIndex_StowCode_7_1_lo (n : Nat) : LoopsOk (T := T) (Phi n 63) (sIndex_StowCode_7_1_Ls n) sIndex_StowCode_7_1_ann n sIndex_StowCode_7_1_code := loopsOk_all (cs := [sIndex_StowCode_7_1_2_c]) (by kernel_rfl) ⟨⟨_, by kernel_rfl, sIndex_StowCode_7_1_2_le n⟩, trivial⟩
theorem sIndex_StowCode_7_1_ok (n : Nat) : EntOk Try.prog (ents n) (sIndex_StowCode_7_1_ent n) := by
  intro hs ar y hg h
  replace h : sIndex_StowCode_7_1_D n ar = some y := h
  unfold sIndex_StowCode_7_1_D at h
  split at h
  · obtain ⟨s0, qh0, h⟩ := obind_some h
    obtain ⟨f1c0, qh1, h⟩ := obind_some h
    rw [argV_eq ok qh0, argP_eq qh1] at hg ⊢
    cases (show [_] = [77] from natsEq_eq hg)
    exact call_of (phiE_nat _ _) hs ok mixed Try.func104 (c := sIndex_StowCode_7_1_code) (by kernel_rfl) (sIndex_StowCode_7_1_lo n) (by kernel_rfl) (by kernel_rfl) (by kernel_rfl) sIndex_StowCode_7_1_de ((sIndex_StowCode_7_1_tie n s0 f1c0).trans h)
  · cases h
noncomputable def sContains_StowCode_7_1_code : Code := match Try.f56.body with | some c => c | none => .skip
def sContains_StowCode_7_1_ann : Ann := fun id => none
def sContains_StowCode_7_1_Ls (n : Nat) : Nat → Option (LSpec T) := fun id => none
theorem sContains_StowCode_7_1_tie (n : Nat) (s0 : List SStow) (f1c0 : SStow) : evF (T := T) (Phi n 64) (sContains_StowCode_7_1_Ls n) sContains_StowCode_7_1_ann n Try.f56 (sg 56) [vA T 44 s0, .fn 77 [.ptr 67 f1c0]] sContains_StowCode_7_1_dec = sContains_StowCode_7_1 n s0 f1c0 := by kernel_rfl
theorem sContains_StowCode_7_1_lo (n : Nat) : LoopsOk (T := T) (Phi n 64) (sContains_StowCode_7_1_Ls n) sContains_StowCode_7_1_ann n sContains_StowCode_7_1_code := loopsOk_all (cs := []) (by kernel_rfl) trivial
theorem sContains_StowCode_7_1_ok (n : Nat) : EntOk Try.prog (ents n) (sContains_StowCode_7_1_ent n) := by
  intro hs ar y hg h
  replace h : sContains_StowCode_7_1_D n ar = some y := h
  unfold sContains_StowCode_7_1_D at h
  split at h
  · obtain ⟨s0, qh0, h⟩ := obind_some h
    obtain ⟨f1c0, qh1, h⟩ := obind_some h
    rw [argV_eq ok qh0, argP_eq qh1] at hg ⊢
    cases (show [_] = [77] from natsEq_eq hg)
    exact call_of (phiE_nat _ _) hs ok mixed Try.func56 (c := sContains_StowCode_7_1_code) (by kernel_rfl) (sContains_StowCode_7_1_lo n) (by kernel_rfl) (by kernel_rfl) (by kernel_rfl) sContains_StowCode_7_1_de ((sContains_StowCode_7_1_tie n s0 f1c0).trans h)
  · cases h
noncomputable def impl_StowCode_7_code : Code := match Try.f76.body with | some c => c | none => .skip
def impl_StowCode_7_ann : Ann := fun id => none
def impl_StowCode_7_Ls (n : Nat) : Nat → Option (LSpec T) := fun id => none
theorem impl_StowCode_7_tie (n : Nat) (i0 : Int) (s1 : SStow) (a2 : List SStow) : evF (T := T) (Phi n 65) (impl_StowCode_7_Ls n) impl_StowCode_7_ann n Try.f76 (sg 76) [vA T 3 i0, vA T 67 s1, .ptr 44 a2] impl_StowCode_7_dec = impl_StowCode_7 n i0 s1 a2 := by kernel_rfl
theorem impl_StowCode_7_lo (n : Nat) : LoopsOk (T := T) (Phi n 65) (impl_StowCode_7_Ls n) impl_StowCode_7_ann n impl_StowCode_7_code := loopsOk_all (cs := []) (by kernel_rfl) trivial
theorem impl_StowCode_7_ok (n : Nat) : EntOk Try.prog (ents n) (impl_StowCode_7_ent n) := by
  intro hs ar y hg h
  replace h : impl_StowCode_7_D n ar = some y := h
  unfold impl_StowCode_7_D at h
  replace h := ocons_some h
  obtain ⟨a0, r0, rfl, h⟩ := h
  replace h := ocons_some h
  obtain ⟨a1, r1, rfl, h⟩ := h
  replace h := ocons_some h
  obtain ⟨a2, r2, rfl, h⟩ := h
  replace h := onil_some h
  obtain ⟨rfl, h⟩ := h
  obtain ⟨i0, qh0, h⟩ := obind_some h
  obtain ⟨s1, qh1, h⟩ := obind_some h
  obtain ⟨a2, qh2, h⟩ := obind_some h
  rw [argV_eq ok qh0, argV_eq ok qh1, argP_eq qh2]
  exact call_of (phiE_nat _ _) hs ok mixed Try.func76 (c := impl_StowCode_7_code) (by kernel_rfl) (impl_StowCode_7_lo n) (by kernel_rfl) (by kernel_rfl) (by kernel_rfl) impl_StowCode_7_de ((impl_StowCode_7_tie n i0 s1 a2).trans h)
noncomputable def impl_StowCode_code : Code := match Try.f25.body with | some c => c | none => .skip
def impl_StowCode_4_sv : List Sv := [.one (.rptr 44 0), .one (.own 3000000 113 false), .one (.int .i64), .one (.int .i64)]
def impl_StowCode_4_so : List So := [.arrS 113]
def impl_StowCode_4_emb (c : List SStow × Int × List SAnon113) (x : Int) : EVs T impl_StowCode_4_sv × EOs T impl_StowCode_4_so := ((c.1, (), c.2.1, x, ()), (c.2.2, ()))
def impl_StowCode_4_prj (y : EVs T impl_StowCode_4_sv × EOs T impl_StowCode_4_so) : (List SStow × Int × List SAnon113) × Int := ((y.1.1, y.1.2.2.1, y.2.1), (y.1.2.2.2.1))
def impl_StowCode_4_b (n : Nat) {R : Type} (K : Ex → Sm.St T → Option R) (c : List SStow × Int × List SAnon113) (x : Int) (J : Int → Option R) : Option R :=
  impl_StowCode_L4 n (K (.exit 0) (stOf (T := T) [] [] [] [] () ())) (fun (y0 : Int) (y1 : Int) => K .ret (stOf (T := T) [4, 5] [] [.one (.int .i64), .one (.int .i64)] [] (y0, y1, ()) ())) J c.1 c.2.1 x c.2.2
def impl_StowCode_4_sp (n : Nat) : LSpec T := mkSpec T ⟨[((.reg 31), 3000000, 113)], [3, 31, 32, 33], [3000000]⟩ impl_StowCode_4_sv impl_StowCode_4_so (List SStow × Int × List SAnon113) (Int) impl_StowCode_4_emb impl_StowCode_4_prj (impl_StowCode_4_b n)
noncomputable def impl_StowCode_4_c : Code := ((loopCodes impl_StowCode_code)[0]?).getD .skip
def impl_StowCode_7_sv : List Sv := [.one (.rptr 44 0), .one (.ptr 56 0 0), .one (.own 3000000 113 false), .one (.int .i64), .one (.int .i64), .one (.arr 67), .one (.int .i64), .one (.int .i64)]
def impl_StowCode_7_so : List So := [.var [.int .i64, .fnd 112], .arrS 113]
def impl_StowCode_7_emb (c : List SStow × Int × Int × List SStow × Int × SAnon113 × List SAnon113) (x : Int) : EVs T impl_StowCode_7_sv × EOs T impl_StowCode_7_so := ((c.1, (), (), c.2.1, c.2.2.1, c.2.2.2.1, c.2.2.2.2.1, x, ()), ((c.2.2.2.2.2.1.code, c.2.2.2.2.2.1.is, ()), c.2.2.2.2.2.2, ()))
def impl_StowCode_7_prj (y : EVs T impl_StowCode_7_sv × EOs T impl_StowCode_7_so) : (List SStow × Int × Int × List SStow × Int × SAnon113 × List SAnon113) × Int := ((y.1.1, y.1.2.2.2.1, y.1.2.2.2.2.1, y.1.2.2.2.2.2.1, y.1.2.2.2.2.2.2.1, ((⟨y.2.1.1, y.2.1.2.1⟩ : SAnon113) : SAnon113), y.2.2.1), (y.1.2.2.2.2.2.2.2.1))
def impl_StowCode_7_b (n : Nat) {R : Type} (K : Ex → Sm.St T → Option R) (c : List SStow × Int × Int × List SStow × Int × SAnon113 × List SAnon113) (x : Int) (J : Int → Option R) : Option R :=
  impl_StowCode_L7 n (K (.exit 2) (stOf (T := T) [3, 31, 32, 33] [3000000] [.one (.rptr 44 0), .one (.own 3000000 113 false), .one (.int .i64), .one (.int .i64)] [.arrS 113] (c.1, (), c.2.1, c.2.2.1, ()) (c.2.2.2.2.2.2, ()))) (fun (y0 : Int) (y1 : Int) => K .ret (stOf (T := T) [4, 5] [] [.one (.int .i64), .one (.int .i64)] [] (y0, y1, ()) ())) J c.1 c.2.1 c.2.2.1 c.2.2.2.1 c.2.2.2.2.1 x c.2.2.2.2.2.1 c.2.2.2.2.2.2
def impl_StowCode_7_sp (n : Nat) : LSpec T := mkSpec T ⟨[((.reg 31), 3000000, 113)], [3, 7, 31, 32, 33, 37, 38, 39], [56, 3000000]⟩ impl_StowCode_7_sv impl_StowCode_7_so (List SStow × Int × Int × List SStow × Int × SAnon113 × List SAnon113) (Int) impl_StowCode_7_emb impl_StowCode_7_prj (impl_StowCode_7_b n)
noncomputable def impl_StowCode_7_c : Code := ((loopCodes impl_StowCode_code)[1]?).getD .skip
def impl_StowCode_ann : Ann := fun id => bif Nat.beq id 3000004 then some ⟨[], [], []⟩ else bif Nat.beq id 2000004 then some ⟨[], [4, 5], []⟩ else bif Nat.beq id 5000007 then some ⟨[((.reg 31), 3000000, 113)], [3, 31, 32, 33], [3000000]⟩ else bif Nat.beq id 2000007 then some ⟨[], [4, 5], []⟩ else bif Nat.beq id 3 then some ⟨[((.reg 2), 47, 999997), ((.reg 3), 44, 999997)], [2, 3], []⟩ else none
def impl_StowCode_Ls (n : Nat) : Nat → Option (LSpec T) := fun id => bif Nat.beq id 4 then some (impl_StowCode_4_sp n) else bif Nat.beq id 7 then some (impl_StowCode_7_sp n) else none
theorem impl_StowCode_4_le (n : Nat) : LoopEq (T := T) (Phi n 66) (impl_StowCode_Ls n) impl_StowCode_ann n impl_StowCode_4_c (impl_StowCode_4_sp n) := ⟨mkSpec_dec (fun y => rfl), fun c x => by kernel_rfl, fun K J c x => by kernel_rfl⟩
theorem impl_StowCode_7_le (n : Nat) : LoopEq (T := T) (Phi n 66) (impl_StowCode_Ls n) impl_StowCode_ann n impl_StowCode_7_c (impl_StowCode_7_sp n) := ⟨mkSpec_dec (fun y => rfl), fun c x => by kernel_rfl, fun K J c x => by kernel_rfl⟩
theorem impl_StowCode_tie (n : Nat) (bays0 : List SHatch) (list1 : List SStow) : evF (T := T) (Phi n 66) (impl_StowCode_Ls n) impl_StowCode_ann n Try.f25 (sg 25) [vA T 47 bays0, vA T 44 list1] impl_StowCode_dec = impl_StowCode n bays0 list1 := by kernel_rfl
theorem impl_StowCode_lo (n : Nat) : LoopsOk (T := T) (Phi n 66) (impl_StowCode_Ls n) impl_StowCode_ann n impl_StowCode_code := loopsOk_all (cs := [impl_StowCode_4_c, impl_StowCode_7_c]) (by kernel_rfl) ⟨⟨_, by kernel_rfl, impl_StowCode_4_le n⟩, ⟨_, by kernel_rfl, impl_StowCode_7_le n⟩, trivial⟩
theorem impl_StowCode_ok (n : Nat) : EntOk Try.prog (ents n) (impl_StowCode_ent n) := by
  intro hs ar y hg h
  replace h : impl_StowCode_D n ar = some y := h
  unfold impl_StowCode_D at h
  replace h := ocons_some h
  obtain ⟨a0, r0, rfl, h⟩ := h
  replace h := ocons_some h
  obtain ⟨a1, r1, rfl, h⟩ := h
  replace h := onil_some h
  obtain ⟨rfl, h⟩ := h
  obtain ⟨bays0, qh0, h⟩ := obind_some h
  obtain ⟨list1, qh1, h⟩ := obind_some h
  rw [argV_eq ok qh0, argV_eq ok qh1]
  exact call_of (phiE_nat _ _) hs ok mixed Try.func25 (c := impl_StowCode_code) (by kernel_rfl) (impl_StowCode_lo n) (by kernel_rfl) (by kernel_rfl) (by kernel_rfl) impl_StowCode_de ((impl_StowCode_tie n bays0 list1).trans h)
noncomputable def impl_over_code : Code := match Try.f103.body with | some c => c | none => .skip
def impl_over_ann : Ann := fun id => none
def impl_over_Ls (n : Nat) : Nat → Option (LSpec T) := fun id => none
theorem impl_over_tie (n : Nat) (a0 : SSpot) (b1 : SSpot) : evF (T := T) (Phi n 67) (impl_over_Ls n) impl_over_ann n Try.f103 (sg 103) [vA T 65 a0, vA T 65 b1] impl_over_dec = impl_over n a0 b1 := by kernel_rfl
theorem impl_over_lo (n : Nat) : LoopsOk (T := T) (Phi n 67) (impl_over_Ls n) impl_over_ann n impl_over_code := loopsOk_all (cs := []) (by kernel_rfl) trivial
theorem impl_over_ok (n : Nat) : EntOk Try.prog (ents n) (impl_over_ent n) := by
  intro hs ar y hg h
  replace h : impl_over_D n ar = some y := h
  unfold impl_over_D at h
  replace h := ocons_some h
  obtain ⟨a0, r0, rfl, h⟩ := h
  replace h := ocons_some h
  obtain ⟨a1, r1, rfl, h⟩ := h
  replace h := onil_some h
  obtain ⟨rfl, h⟩ := h
  obtain ⟨a0, qh0, h⟩ := obind_some h
  obtain ⟨b1, qh1, h⟩ := obind_some h
  rw [argV_eq ok qh0, argV_eq ok qh1]
  exact call_of (phiE_nat _ _) hs ok mixed Try.func103 (c := impl_over_code) (by kernel_rfl) (impl_over_lo n) (by kernel_rfl) (by kernel_rfl) (by kernel_rfl) impl_over_de ((impl_over_tie n a0 b1).trans h)
noncomputable def impl_overstows_code : Code := match Try.f54.body with | some c => c | none => .skip
def impl_overstows_3_sv : List Sv := [.one (.arr 67), .one (.int .i64), .one (.arr 67), .one (.int .i64), .one (.int .i64)]
def impl_overstows_3_so : List So := []
def impl_overstows_3_emb (c : List SStow × List SStow × Int) (x : Int × Int) : EVs T impl_overstows_3_sv × EOs T impl_overstows_3_so := ((c.1, x.1, c.2.1, c.2.2, x.2, ()), ())
def impl_overstows_3_prj (y : EVs T impl_overstows_3_sv × EOs T impl_overstows_3_so) : (List SStow × List SStow × Int) × (Int × Int) := ((y.1.1, y.1.2.2.1, y.1.2.2.2.1), (y.1.2.1, y.1.2.2.2.2.1))
def impl_overstows_3_b (n : Nat) {R : Type} (K : Ex → Sm.St T → Option R) (c : List SStow × List SStow × Int) (x : Int × Int) (J : (Int × Int) → Option R) : Option R :=
  impl_overstows_L3 n (fun (y0 : Int) => K (.exit 0) (stOf (T := T) [3] [] [.one (.int .i64)] [] (y0, ()) ())) (fun z0 z1 => J (z0, z1)) c.1 x.1 c.2.1 c.2.2 x.2
def impl_overstows_3_sp (n : Nat) : LSpec T := mkSpec T ⟨[], [0, 3, 8, 9, 10], []⟩ impl_overstows_3_sv impl_overstows_3_so (List SStow × List SStow × Int) (Int × Int) impl_overstows_3_emb impl_overstows_3_prj (impl_overstows_3_b n)
noncomputable def impl_overstows_3_c : Code := ((loopCodes impl_overstows_code)[0]?).getD .skip
def impl_overstows_6_sv : List Sv := [.one (.arr 67), .one (.int .i64), .one (.ptr 40 0 0), .one (.arr 67), .one (.int .i64), .one (.int .i64), .one (.arr 67), .one (.int .i64), .one (.int .i64)]
def impl_overstows_6_so : List So := [.var [.str, .int .i64, .int .i64, .bool, .int .i64, .int .i64, .int .i64, .int .i64, .int .i64]]
def impl_overstows_6_emb (c : List SStow × List SStow × Int × Int × List SStow × Int × SStow) (x : Int × Int) : EVs T impl_overstows_6_sv × EOs T impl_overstows_6_so := ((c.1, x.1, (), c.2.1, c.2.2.1, c.2.2.2.1, c.2.2.2.2.1, c.2.2.2.2.2.1, x.2, ()), ((c.2.2.2.2.2.2.Box.Name, c.2.2.2.2.2.2.Box.Weight, c.2.2.2.2.2.2.Box.Class, c.2.2.2.2.2.2.Box.Cold, c.2.2.2.2.2.2.Box.From, c.2.2.2.2.2.2.Box.To, c.2.2.2.2.2.2.Spot.Bay, c.2.2.2.2.2.2.Spot.Row, c.2.2.2.2.2.2.Spot.Tier, ()), ()))
def impl_overstows_6_prj (y : EVs T impl_overstows_6_sv × EOs T impl_overstows_6_so) : (List SStow × List SStow × Int × Int × List SStow × Int × SStow) × (Int × Int) := ((y.1.1, y.1.2.2.2.1, y.1.2.2.2.2.1, y.1.2.2.2.2.2.1, y.1.2.2.2.2.2.2.1, y.1.2.2.2.2.2.2.2.1, ((⟨(⟨y.2.1.1, y.2.1.2.1, y.2.1.2.2.1, y.2.1.2.2.2.1, y.2.1.2.2.2.2.1, y.2.1.2.2.2.2.2.1⟩ : SBox), (⟨y.2.1.2.2.2.2.2.2.1, y.2.1.2.2.2.2.2.2.2.1, y.2.1.2.2.2.2.2.2.2.2.1⟩ : SSpot)⟩ : SStow) : SStow)), (y.1.2.1, y.1.2.2.2.2.2.2.2.2.1))
def impl_overstows_6_b (n : Nat) {R : Type} (K : Ex → Sm.St T → Option R) (c : List SStow × List SStow × Int × Int × List SStow × Int × SStow) (x : Int × Int) (J : (Int × Int) → Option R) : Option R :=
  impl_overstows_L6 n (fun (y1 : Int) => K (.exit 2) (stOf (T := T) [0, 3, 8, 9, 10] [] [.one (.arr 67), .one (.int .i64), .one (.arr 67), .one (.int .i64), .one (.int .i64)] [] (c.1, y1, c.2.1, c.2.2.1, c.2.2.2.1, ()) ())) (fun z0 z1 => J (z0, z1)) c.1 x.1 c.2.1 c.2.2.1 c.2.2.2.1 c.2.2.2.2.1 c.2.2.2.2.2.1 x.2 c.2.2.2.2.2.2
def impl_overstows_6_sp (n : Nat) : LSpec T := mkSpec T ⟨[], [0, 3, 5, 8, 9, 10, 14, 15, 16], [40]⟩ impl_overstows_6_sv impl_overstows_6_so (List SStow × List SStow × Int × Int × List SStow × Int × SStow) (Int × Int) impl_overstows_6_emb impl_overstows_6_prj (impl_overstows_6_b n)
noncomputable def impl_overstows_6_c : Code := ((loopCodes impl_overstows_code)[1]?).getD .skip
def impl_overstows_ann : Ann := fun id => bif Nat.beq id 3000003 then some ⟨[], [3], []⟩ else bif Nat.beq id 5000006 then some ⟨[], [0, 3, 8, 9, 10], []⟩ else none
def impl_overstows_Ls (n : Nat) : Nat → Option (LSpec T) := fun id => bif Nat.beq id 3 then some (impl_overstows_3_sp n) else bif Nat.beq id 6 then some (impl_overstows_6_sp n) else none
theorem impl_overstows_3_le (n : Nat) : LoopEq (T := T) (Phi n 68) (impl_overstows_Ls n) impl_overstows_ann n impl_overstows_3_c (impl_overstows_3_sp n) := ⟨mkSpec_dec (fun y => rfl), fun c x => by kernel_rfl, fun K J c x => by kernel_rfl⟩
theorem impl_overstows_6_le (n : Nat) : LoopEq (T := T) (Phi n 68) (impl_overstows_Ls n) impl_overstows_ann n impl_overstows_6_c (impl_overstows_6_sp n) := ⟨mkSpec_dec (fun y => rfl), fun c x => by kernel_rfl, fun K J c x => by kernel_rfl⟩
theorem impl_overstows_tie (n : Nat) (list0 : List SStow) : evF (T := T) (Phi n 68) (impl_overstows_Ls n) impl_overstows_ann n Try.f54 (sg 54) [vA T 44 list0] impl_overstows_dec = impl_overstows n list0 := by kernel_rfl
theorem impl_overstows_lo (n : Nat) : LoopsOk (T := T) (Phi n 68) (impl_overstows_Ls n) impl_overstows_ann n impl_overstows_code := loopsOk_all (cs := [impl_overstows_3_c, impl_overstows_6_c]) (by kernel_rfl) ⟨⟨_, by kernel_rfl, impl_overstows_3_le n⟩, ⟨_, by kernel_rfl, impl_overstows_6_le n⟩, trivial⟩
theorem impl_overstows_ok (n : Nat) : EntOk Try.prog (ents n) (impl_overstows_ent n) := by
  intro hs ar y hg h
  replace h : impl_overstows_D n ar = some y := h
  unfold impl_overstows_D at h
  replace h := ocons_some h
  obtain ⟨a0, r0, rfl, h⟩ := h
  replace h := onil_some h
  obtain ⟨rfl, h⟩ := h
  obtain ⟨list0, qh0, h⟩ := obind_some h
  rw [argV_eq ok qh0]
  exact call_of (phiE_nat _ _) hs ok mixed Try.func54 (c := impl_overstows_code) (by kernel_rfl) (impl_overstows_lo n) (by kernel_rfl) (by kernel_rfl) (by kernel_rfl) impl_overstows_de ((impl_overstows_tie n list0).trans h)
noncomputable def impl_own_impl_Stow_code : Code := match Try.f55.body with | some c => c | none => .skip
def impl_own_impl_Stow_ann : Ann := fun id => none
def impl_own_impl_Stow_Ls (n : Nat) : Nat → Option (LSpec T) := fun id => none
theorem impl_own_impl_Stow_tie (n : Nat) (l0 : List SStow) : evF (T := T) (Phi n 69) (impl_own_impl_Stow_Ls n) impl_own_impl_Stow_ann n Try.f55 (sg 55) [vA T 44 l0] impl_own_impl_Stow_dec = impl_own_impl_Stow n l0 := by kernel_rfl
theorem impl_own_impl_Stow_lo (n : Nat) : LoopsOk (T := T) (Phi n 69) (impl_own_impl_Stow_Ls n) impl_own_impl_Stow_ann n impl_own_impl_Stow_code := loopsOk_all (cs := []) (by kernel_rfl) trivial
theorem impl_own_impl_Stow_ok (n : Nat) : EntOk Try.prog (ents n) (impl_own_impl_Stow_ent n) := by
  intro hs ar y hg h
  replace h : impl_own_impl_Stow_D n ar = some y := h
  unfold impl_own_impl_Stow_D at h
  replace h := ocons_some h
  obtain ⟨a0, r0, rfl, h⟩ := h
  replace h := onil_some h
  obtain ⟨rfl, h⟩ := h
  obtain ⟨l0, qh0, h⟩ := obind_some h
  rw [argV_eq ok qh0]
  exact call_of (phiE_nat _ _) hs ok mixed Try.func55 (c := impl_own_impl_Stow_code) (by kernel_rfl) (impl_own_impl_Stow_lo n) (by kernel_rfl) (by kernel_rfl) (by kernel_rfl) impl_own_impl_Stow_de ((impl_own_impl_Stow_tie n l0).trans h)
noncomputable def impl_Fewest_2_1_code : Code := match Try.f57.body with | some c => c | none => .skip
def impl_Fewest_2_1_ann : Ann := fun id => none
def impl_Fewest_2_1_Ls (n : Nat) : Nat → Option (LSpec T) := fun id => none
theorem impl_Fewest_2_1_tie (n : Nat) (x0 : SStow) (a1 : SSpot) : evF (T := T) (Phi n 70) (impl_Fewest_2_1_Ls n) impl_Fewest_2_1_ann n Try.f57 (sg 57) [vA T 67 x0, .ptr 65 a1] impl_Fewest_2_1_dec = impl_Fewest_2_1 n x0 a1 := by kernel_rfl
theorem impl_Fewest_2_1_lo (n : Nat) : LoopsOk (T := T) (Phi n 70) (impl_Fewest_2_1_Ls n) impl_Fewest_2_1_ann n impl_Fewest_2_1_code := loopsOk_all (cs := []) (by kernel_rfl) trivial
theorem impl_Fewest_2_1_ok (n : Nat) : EntOk Try.prog (ents n) (impl_Fewest_2_1_ent n) := by
  intro hs ar y hg h
  replace h : impl_Fewest_2_1_D n ar = some y := h
  unfold impl_Fewest_2_1_D at h
  replace h := ocons_some h
  obtain ⟨a0, r0, rfl, h⟩ := h
  replace h := ocons_some h
  obtain ⟨a1, r1, rfl, h⟩ := h
  replace h := onil_some h
  obtain ⟨rfl, h⟩ := h
  obtain ⟨x0, qh0, h⟩ := obind_some h
  obtain ⟨a1, qh1, h⟩ := obind_some h
  rw [argV_eq ok qh0, argP_eq qh1]
  exact call_of (phiE_nat _ _) hs ok mixed Try.func57 (c := impl_Fewest_2_1_code) (by kernel_rfl) (impl_Fewest_2_1_lo n) (by kernel_rfl) (by kernel_rfl) (by kernel_rfl) impl_Fewest_2_1_de ((impl_Fewest_2_1_tie n x0 a1).trans h)
noncomputable def sIndex_Fewest_2_1_code : Code := match Try.f104.body with | some c => c | none => .skip
def sIndex_Fewest_2_1_2_sv : List Sv := [.one (.arr 67), .one (.fnr 57 [65]), .one (.int .i64), .one (.int .i64)]
def sIndex_Fewest_2_1_2_so : List So := []
def sIndex_Fewest_2_1_2_emb (c : List SStow × SSpot × Int) (x : Int) : EVs T sIndex_Fewest_2_1_2_sv × EOs T sIndex_Fewest_2_1_2_so := ((c.1, (c.2.1, ()), c.2.2, x, ()), ())
def sIndex_Fewest_2_1_2_prj (y : EVs T sIndex_Fewest_2_1_2_sv × EOs T sIndex_Fewest_2_1_2_so) : (List SStow × SSpot × Int) × Int := ((y.1.1, y.1.2.1.1, y.1.2.2.1), (y.1.2.2.2.1))
def sIndex_Fewest_2_1_2_b (n : Nat) {R : Type} (K : Ex → Sm.St T → Option R) (c : List SStow × SSpot × Int) (x : Int) (J : Int → Option R) : Option R :=
  sIndex_Fewest_2_1_L2 n (K (.exit 0) (stOf (T := T) [] [] [] [] () ())) (fun (y0 : Int) => K .ret (stOf (T := T) [4] [] [.one (.int .i64)] [] (y0, ()) ())) J c.1 c.2.1 c.2.2 x
def sIndex_Fewest_2_1_2_sp (n : Nat) : LSpec T := mkSpec T ⟨[], [0, 1, 7, 8], []⟩ sIndex_Fewest_2_1_2_sv sIndex_Fewest_2_1_2_so (List SStow × SSpot × Int) (Int) sIndex_Fewest_2_1_2_emb sIndex_Fewest_2_1_2_prj (sIndex_Fewest_2_1_2_b n)
noncomputable def sIndex_Fewest_2_1_2_c : Code := ((loopCodes sIndex_Fewest_2_1_code)[0]?).getD .skip
def sIndex_Fewest_2_1_ann : Ann := fun id => bif Nat.beq id 3000002 then some ⟨[], [], []⟩ else bif Nat.beq id 2000002 then some ⟨[], [4], []⟩ else none
def sIndex_Fewest_2_1_Ls (n : Nat) : Nat → Option (LSpec T) := fun id => bif Nat.beq id 2 then some (sIndex_Fewest_2_1_2_sp n) else none
theorem sIndex_Fewest_2_1_2_le (n : Nat) : LoopEq (T := T) (Phi n 71) (sIndex_Fewest_2_1_Ls n) sIndex_Fewest_2_1_ann n sIndex_Fewest_2_1_2_c (sIndex_Fewest_2_1_2_sp n) := ⟨mkSpec_dec (fun y => rfl), fun c x => by kernel_rfl, fun K J c x => by kernel_rfl⟩
theorem sIndex_Fewest_2_1_tie (n : Nat) (s0 : List SStow) (f1c0 : SSpot) : evF (T := T) (Phi n 71) (sIndex_Fewest_2_1_Ls n) sIndex_Fewest_2_1_ann n Try.f104 (sg 104) [vA T 44 s0, .fn 57 [.ptr 65 f1c0]] sIndex_Fewest_2_1_dec = sIndex_Fewest_2_1 n s0 f1c0 := by kernel_rfl
theorem sIndex_Fewest_2_1_lo (n : Nat) : LoopsOk (T := T) (Phi n 71) (sIndex_Fewest_2_1_Ls n) sIndex_Fewest_2_1_ann n sIndex_Fewest_2_1_code := loopsOk_all (cs := [sIndex_Fewest_2_1_2_c]) (by kernel_rfl) ⟨⟨_, by kernel_rfl, sIndex_Fewest_2_1_2_le n⟩, trivial⟩
theorem sIndex_Fewest_2_1_ok (n : Nat) : EntOk Try.prog (ents n) (sIndex_Fewest_2_1_ent n) := by
  intro hs ar y hg h
  replace h : sIndex_Fewest_2_1_D n ar = some y := h
  unfold sIndex_Fewest_2_1_D at h
  split at h
  · obtain ⟨s0, qh0, h⟩ := obind_some h
    obtain ⟨f1c0, qh1, h⟩ := obind_some h
    rw [argV_eq ok qh0, argP_eq qh1] at hg ⊢
    cases (show [_] = [57] from natsEq_eq hg)
    exact call_of (phiE_nat _ _) hs ok mixed Try.func104 (c := sIndex_Fewest_2_1_code) (by kernel_rfl) (sIndex_Fewest_2_1_lo n) (by kernel_rfl) (by kernel_rfl) (by kernel_rfl) sIndex_Fewest_2_1_de ((sIndex_Fewest_2_1_tie n s0 f1c0).trans h)
  · cases h
noncomputable def sContains_Fewest_2_1_code : Code := match Try.f56.body with | some c => c | none => .skip
def sContains_Fewest_2_1_ann : Ann := fun id => none
def sContains_Fewest_2_1_Ls (n : Nat) : Nat → Option (LSpec T) := fun id => none
theorem sContains_Fewest_2_1_tie (n : Nat) (s0 : List SStow) (f1c0 : SSpot) : evF (T := T) (Phi n 72) (sContains_Fewest_2_1_Ls n) sContains_Fewest_2_1_ann n Try.f56 (sg 56) [vA T 44 s0, .fn 57 [.ptr 65 f1c0]] sContains_Fewest_2_1_dec = sContains_Fewest_2_1 n s0 f1c0 := by kernel_rfl
theorem sContains_Fewest_2_1_lo (n : Nat) : LoopsOk (T := T) (Phi n 72) (sContains_Fewest_2_1_Ls n) sContains_Fewest_2_1_ann n sContains_Fewest_2_1_code := loopsOk_all (cs := []) (by kernel_rfl) trivial
theorem sContains_Fewest_2_1_ok (n : Nat) : EntOk Try.prog (ents n) (sContains_Fewest_2_1_ent n) := by
  intro hs ar y hg h
  replace h : sContains_Fewest_2_1_D n ar = some y := h
  unfold sContains_Fewest_2_1_D at h
  split at h
  · obtain ⟨s0, qh0, h⟩ := obind_some h
    obtain ⟨f1c0, qh1, h⟩ := obind_some h
    rw [argV_eq ok qh0, argP_eq qh1] at hg ⊢
    cases (show [_] = [57] from natsEq_eq hg)
    exact call_of (phiE_nat _ _) hs ok mixed Try.func56 (c := sContains_Fewest_2_1_code) (by kernel_rfl) (sContains_Fewest_2_1_lo n) (by kernel_rfl) (by kernel_rfl) (by kernel_rfl) sContains_Fewest_2_1_de ((sContains_Fewest_2_1_tie n s0 f1c0).trans h)
  · cases h
abbrev impl_Fewest_2__self_Phi (n : Nat) (rc : List SStow → List SBox → List SHatch → Int → List SStow → List SSpot → Option (Int × List SStow)) {R : Type} (g : Nat) (ar : List (A T)) (K : Res T → Option R) : Option R := PhiR (T := T) (PhiE (ents n) 73) 53 [2000000053] (impl_Fewest_2__self_Dr rc) impl_Fewest_2__self_enc g ar K
noncomputable def impl_Fewest_2__self_code : Code := match Try.f53.body with | some c => c | none => .skip
def impl_Fewest_2__self_7_sv : List Sv := [.one (.arr 67), .one (.rptr 49 0), .one (.fnm 2000000053 [.r 49, .r 47, .p 4503599627370496, .p 4503599627370497, .r 94, .u]), .one (.arr 65), .one (.int .i64), .one (.int .i64)]
def impl_Fewest_2__self_7_so : List So := [.var [.int .i64], .var [.own 3000000 67 false], .arr 67 false]
def impl_Fewest_2__self_7_emb (c : List SStow × List SBox × List SBox × List SHatch × List SSpot × List SSpot × Int) (x : Int × Int × List SStow) : EVs T impl_Fewest_2__self_7_sv × EOs T impl_Fewest_2__self_7_so := ((c.1, c.2.1, (c.2.2.1, c.2.2.2.1, (), (), c.2.2.2.2.1, (), ()), c.2.2.2.2.2.1, c.2.2.2.2.2.2, x.1, ()), ((x.2.1, ()), ((), ()), x.2.2, ()))
def impl_Fewest_2__self_7_prj (y : EVs T impl_Fewest_2__self_7_sv × EOs T impl_Fewest_2__self_7_so) : (List SStow × List SBox × List SBox × List SHatch × List SSpot × List SSpot × Int) × (Int × Int × List SStow) := ((y.1.1, y.1.2.1, y.1.2.2.1.1, y.1.2.2.1.2.1, y.1.2.2.1.2.2.2.2.1, y.1.2.2.2.1, y.1.2.2.2.2.1), (y.1.2.2.2.2.2.1, y.2.1.1, y.2.2.2.1))
def impl_Fewest_2__self_7_b (n : Nat) (rc : List SStow → List SBox → List SHatch → Int → List SStow → List SSpot → Option (Int × List SStow)) {R : Type} (K : Ex → Sm.St T → Option R) (c : List SStow × List SBox × List SBox × List SHatch × List SSpot × List SSpot × Int) (x : Int × Int × List SStow) (J : (Int × Int × List SStow) → Option R) : Option R :=
  impl_Fewest_2__self_L7 n rc (fun (y0 : Int) (y1 : List SStow) => K (.exit 0) (stOf (T := T) [] [4503599627370496, 4503599627370497, 3000000] [] [.var [.int .i64], .var [.own 3000000 67 false], .arr 67 false] () ((y0, ()), ((), ()), y1, ()))) (fun z0 z1 z2 => J (z0, z1, z2)) c.1 c.2.1 c.2.2.1 c.2.2.2.1 c.2.2.2.2.1 c.2.2.2.2.2.1 c.2.2.2.2.2.2 x.1 x.2.1 x.2.2
def impl_Fewest_2__self_7_sp (n : Nat) (rc : List SStow → List SBox → List SHatch → Int → List SStow → List SSpot → Option (Int × List SStow)) : LSpec T := mkSpec T ⟨[((.cell 4503599627370497 0), 3000000, 67)], [0, 1, 6, 38, 39, 40], [4503599627370496, 4503599627370497, 3000000]⟩ impl_Fewest_2__self_7_sv impl_Fewest_2__self_7_so (List SStow × List SBox × List SBox × List SHatch × List SSpot × List SSpot × Int) (Int × Int × List SStow) impl_Fewest_2__self_7_emb impl_Fewest_2__self_7_prj (impl_Fewest_2__self_7_b n rc)
noncomputable def impl_Fewest_2__self_7_c : Code := ((loopCodes impl_Fewest_2__self_code)[0]?).getD .skip
def impl_Fewest_2__self_ann : Ann := fun id => bif Nat.beq id 3000007 then some ⟨[((.cell 4503599627370497 0), 3000000, 67)], [], [4503599627370496, 4503599627370497, 3000000]⟩ else none
def impl_Fewest_2__self_Ls (n : Nat) (rc : List SStow → List SBox → List SHatch → Int → List SStow → List SSpot → Option (Int × List SStow)) : Nat → Option (LSpec T) := fun id => bif Nat.beq id 7 then some (impl_Fewest_2__self_7_sp n rc) else none
theorem impl_Fewest_2__self_7_le (n : Nat) (rc : List SStow → List SBox → List SHatch → Int → List SStow → List SSpot → Option (Int × List SStow)) : LoopEq (T := T) (impl_Fewest_2__self_Phi n rc) (impl_Fewest_2__self_Ls n rc) impl_Fewest_2__self_ann n impl_Fewest_2__self_7_c (impl_Fewest_2__self_7_sp n rc) := ⟨mkSpec_dec (fun y => rfl), fun c x => by kernel_rfl, fun K J c x => by kernel_rfl⟩
theorem impl_Fewest_2__self_tie (n : Nat) (rc : List SStow → List SBox → List SHatch → Int → List SStow → List SSpot → Option (Int × List SStow)) (l0 : List SStow) (a1 : List SBox) (a2 : List SHatch) (a3 : Int) (a4 : List SStow) (a5 : List SSpot) : evF (T := T) (impl_Fewest_2__self_Phi n rc) (impl_Fewest_2__self_Ls n rc) impl_Fewest_2__self_ann n Try.f53 (sg 53) [vA T 44 l0, .ptr 49 a1, .ptr 47 a2, .ptr 3 a3, .ptr 44 a4, .ptr 94 a5, .fn 2000000053 []] impl_Fewest_2__self_dec = impl_Fewest_2__self_b n rc l0 a1 a2 a3 a4 a5 := by kernel_rfl
theorem impl_Fewest_2__self_lo (n : Nat) (rc : List SStow → List SBox → List SHatch → Int → List SStow → List SSpot → Option (Int × List SStow)) : LoopsOk (T := T) (impl_Fewest_2__self_Phi n rc) (impl_Fewest_2__self_Ls n rc) impl_Fewest_2__self_ann n impl_Fewest_2__self_code := loopsOk_all (cs := [impl_Fewest_2__self_7_c]) (by kernel_rfl) ⟨⟨_, by kernel_rfl, impl_Fewest_2__self_7_le n rc⟩, trivial⟩
theorem impl_Fewest_2__self_okr (n : Nat) (hs : SemOk (PhiE (T := T) (ents n) 73) (CallOk Try.prog T)) : ∀ m ar y, natsEq (fnsOf ar) [2000000053] = true → impl_Fewest_2__self_Dr (impl_Fewest_2__self_r n m) ar = some y → CallOk Try.prog T 53 ar (impl_Fewest_2__self_enc y) := by
  intro m
  induction m with
  | zero =>
    intro ar y hg h
    unfold impl_Fewest_2__self_Dr at h
    split at h
    · obtain ⟨l0, qh0, h⟩ := obind_some h
      obtain ⟨a1, qh1, h⟩ := obind_some h
      obtain ⟨a2, qh2, h⟩ := obind_some h
      obtain ⟨a3, qh3, h⟩ := obind_some h
      obtain ⟨a4, qh4, h⟩ := obind_some h
      obtain ⟨a5, qh5, h⟩ := obind_some h
      rw [argV_eq ok qh0, argP_eq qh1, argP_eq qh2, argP_eq qh3, argP_eq qh4, argP_eq qh5] at hg ⊢
      cases (show [_] = [2000000053] from natsEq_eq hg)
      exact nomatch (show (none : Option (Int × List SStow)) = some y from h)
    · cases h
  | succ m ih =>
    intro ar y hg h
    unfold impl_Fewest_2__self_Dr at h
    split at h
    · obtain ⟨l0, qh0, h⟩ := obind_some h
      obtain ⟨a1, qh1, h⟩ := obind_some h
      obtain ⟨a2, qh2, h⟩ := obind_some h
      obtain ⟨a3, qh3, h⟩ := obind_some h
      obtain ⟨a4, qh4, h⟩ := obind_some h
      obtain ⟨a5, qh5, h⟩ := obind_some h
      rw [argV_eq ok qh0, argP_eq qh1, argP_eq qh2, argP_eq qh3, argP_eq qh4, argP_eq qh5] at hg ⊢
      cases (show [_] = [2000000053] from natsEq_eq hg)
      exact call_of (phiR_nat (phiE_nat _ _) _ _ _ _) (phiR_ok hs ih) ok mixed Try.func53 (c := impl_Fewest_2__self_code) (by kernel_rfl) (impl_Fewest_2__self_lo n (impl_Fewest_2__self_r n m)) (by kernel_rfl) (by kernel_rfl) (by kernel_rfl) impl_Fewest_2__self_de ((impl_Fewest_2__self_tie n (impl_Fewest_2__self_r n m) l0 a1 a2 a3 a4 a5).trans h)
    · cases h
theorem impl_Fewest_2__self_ok (n : Nat) : EntOk Try.prog (ents n) (impl_Fewest_2__self_ent n) := fun hs ar y hg h => impl_Fewest_2__self_okr n hs n ar y hg h
noncomputable def impl_Fewest_code : Code := match Try.f16.body with | some c => c | none => .skip
def impl_Fewest_4_sv : List Sv := [.one (.ptr 16 0 0), .one (.ptr 24 0 0), .one (.arr 63), .one (.int .i64), .one (.int .i64)]
def impl_Fewest_4_so : List So := [.var [.arr 96], .var [.arr 63]]
def impl_Fewest_4_emb (c : List SBox × Int × List SHatch × List SBox) (x : Int) : EVs T impl_Fewest_4_sv × EOs T impl_Fewest_4_so := (((), (), c.1, c.2.1, x, ()), ((c.2.2.1, ()), (c.2.2.2, ()), ()))
def impl_Fewest_4_prj (y : EVs T impl_Fewest_4_sv × EOs T impl_Fewest_4_so) : (List SBox × Int × List SHatch × List SBox) × Int := ((y.1.2.2.1, y.1.2.2.2.1, y.2.1.1, y.2.2.1.1), (y.1.2.2.2.2.1))
def impl_Fewest_4_b (n : Nat) {R : Type} (K : Ex → Sm.St T → Option R) (c : List SBox × Int × List SHatch × List SBox) (x : Int) (J : Int → Option R) : Option R :=
  impl_Fewest_L4 n (K (.exit 0) (stOf (T := T) [2, 3] [16, 24] [.one (.ptr 16 0 0), .one (.ptr 24 0 0)] [.var [.arr 96], .var [.arr 63]] ((), (), ()) ((c.2.2.1, ()), (c.2.2.2, ()), ()))) (fun (y0 : Bool) (y1 : List SStow) => K .ret (stOf (T := T) [4, 5] [3000000] [.one (.own 3000000 67 false), .one (.bool)] [.arr 67 false] ((), y0, ()) (y1, ()))) J c.1 c.2.1 x c.2.2.1 c.2.2.2
def impl_Fewest_4_sp (n : Nat) : LSpec T := mkSpec T ⟨[], [2, 3, 24, 25, 26], [16, 24]⟩ impl_Fewest_4_sv impl_Fewest_4_so (List SBox × Int × List SHatch × List SBox) (Int) impl_Fewest_4_emb impl_Fewest_4_prj (impl_Fewest_4_b n)
noncomputable def impl_Fewest_4_c : Code := ((loopCodes impl_Fewest_code)[0]?).getD .skip
def impl_Fewest_11_sv : List Sv := [.one (.ptr 16 0 0), .one (.ptr 24 0 0), .one (.ptr 64 0 0), .one (.arr 96), .one (.int .i64), .one (.int .i64)]
def impl_Fewest_11_so : List So := [.var [.arr 96], .var [.arr 63], .var [.own 3000001 65 false], .arr 65 false]
def impl_Fewest_11_emb (c : List SHatch × Int × List SHatch × List SBox) (x : Int × List SSpot) : EVs T impl_Fewest_11_sv × EOs T impl_Fewest_11_so := (((), (), (), c.1, c.2.1, x.1, ()), ((c.2.2.1, ()), (c.2.2.2, ()), ((), ()), x.2, ()))
def impl_Fewest_11_prj (y : EVs T impl_Fewest_11_sv × EOs T impl_Fewest_11_so) : (List SHatch × Int × List SHatch × List SBox) × (Int × List SSpot) := ((y.1.2.2.2.1, y.1.2.2.2.2.1, y.2.1.1, y.2.2.1.1), (y.1.2.2.2.2.2.1, y.2.2.2.2.1))
def impl_Fewest_11_b (n : Nat) {R : Type} (K : Ex → Sm.St T → Option R) (c : List SHatch × Int × List SHatch × List SBox) (x : Int × List SSpot) (J : (Int × List SSpot) → Option R) : Option R :=
  impl_Fewest_L11 n (fun (y2 : List SSpot) => K (.exit 2) (stOf (T := T) [2, 3, 8] [16, 24, 64, 3000001] [.one (.ptr 16 0 0), .one (.ptr 24 0 0), .one (.ptr 64 0 0)] [.var [.arr 96], .var [.arr 63], .var [.own 3000001 65 false], .arr 65 false] ((), (), (), ()) ((c.2.2.1, ()), (c.2.2.2, ()), ((), ()), y2, ()))) (fun z0 z1 => J (z0, z1)) c.1 c.2.1 x.1 c.2.2.1 c.2.2.2 x.2
def impl_Fewest_11_sp (n : Nat) : LSpec T := mkSpec T ⟨[((.cell 64 0), 3000001, 65)], [2, 3, 8, 42, 43, 44], [16, 24, 64, 3000001]⟩ impl_Fewest_11_sv impl_Fewest_11_so (List SHatch × Int × List SHatch × List SBox) (Int × List SSpot) impl_Fewest_11_emb impl_Fewest_11_prj (impl_Fewest_11_b n)
noncomputable def impl_Fewest_11_c : Code := ((loopCodes impl_Fewest_code)[1]?).getD .skip
def impl_Fewest_14_sv : List Sv := [.one (.ptr 16 0 0), .one (.ptr 24 0 0), .one (.ptr 64 0 0), .one (.int .i64), .one (.ptr 80 0 0), .one (.arr 96), .one (.int .i64), .one (.int .i64), .one (.int .i64), .one (.int .i64)]
def impl_Fewest_14_so : List So := [.var [.arr 96], .var [.arr 63], .var [.own 3000001 65 false], .arr 65 false, .var [.int .i64, .int .i64, .int .i64, .int .i64]]
def impl_Fewest_14_emb (c : Int × List SHatch × Int × Int × Int × List SHatch × List SBox × SHatch) (x : Int × List SSpot) : EVs T impl_Fewest_14_sv × EOs T impl_Fewest_14_so := (((), (), (), c.1, (), c.2.1, c.2.2.1, c.2.2.2.1, c.2.2.2.2.1, x.1, ()), ((c.2.2.2.2.2.1, ()), (c.2.2.2.2.2.2.1, ()), ((), ()), x.2, (c.2.2.2.2.2.2.2.Rows, c.2.2.2.2.2.2.2.Tiers, c.2.2.2.2.2.2.2.Most, c.2.2.2.2.2.2.2.Plugs, ()), ()))
def impl_Fewest_14_prj (y : EVs T impl_Fewest_14_sv × EOs T impl_Fewest_14_so) : (Int × List SHatch × Int × Int × Int × List SHatch × List SBox × SHatch) × (Int × List SSpot) := ((y.1.2.2.2.1, y.1.2.2.2.2.2.1, y.1.2.2.2.2.2.2.1, y.1.2.2.2.2.2.2.2.1, y.1.2.2.2.2.2.2.2.2.1, y.2.1.1, y.2.2.1.1, ((⟨y.2.2.2.2.2.1.1, y.2.2.2.2.2.1.2.1, y.2.2.2.2.2.1.2.2.1, y.2.2.2.2.2.1.2.2.2.1⟩ : SHatch) : SHatch)), (y.1.2.2.2.2.2.2.2.2.2.1, y.2.2.2.2.1))
def impl_Fewest_14_b (n : Nat) {R : Type} (K : Ex → Sm.St T → Option R) (c : Int × List SHatch × Int × Int × Int × List SHatch × List SBox × SHatch) (x : Int × List SSpot) (J : (Int × List SSpot) → Option R) : Option R :=
  impl_Fewest_L14 n (fun (y5 : List SSpot) => K (.exit 4) (stOf (T := T) [2, 3, 8, 42, 43, 44] [16, 24, 64, 3000001] [.one (.ptr 16 0 0), .one (.ptr 24 0 0), .one (.ptr 64 0 0), .one (.arr 96), .one (.int .i64), .one (.int .i64)] [.var [.arr 96], .var [.arr 63], .var [.own 3000001 65 false], .arr 65 false] ((), (), (), c.2.1, c.2.2.1, c.2.2.2.1, ()) ((c.2.2.2.2.2.1, ()), (c.2.2.2.2.2.2.1, ()), ((), ()), y5, ()))) (fun z0 z1 => J (z0, z1)) c.1 c.2.1 c.2.2.1 c.2.2.2.1 c.2.2.2.2.1 x.1 c.2.2.2.2.2.1 c.2.2.2.2.2.2.1 x.2 c.2.2.2.2.2.2.2
def impl_Fewest_14_sp (n : Nat) : LSpec T := mkSpec T ⟨[((.cell 64 0), 3000001, 65)], [2, 3, 8, 9, 10, 42, 43, 44, 50, 51], [16, 24, 64, 3000001, 80]⟩ impl_Fewest_14_sv impl_Fewest_14_so (Int × List SHatch × Int × Int × Int × List SHatch × List SBox × SHatch) (Int × List SSpot) impl_Fewest_14_emb impl_Fewest_14_prj (impl_Fewest_14_b n)
noncomputable def impl_Fewest_14_c : Code := ((loopCodes impl_Fewest_code)[2]?).getD .skip
def impl_Fewest_17_sv : List Sv := [.one (.ptr 16 0 0), .one (.ptr 24 0 0), .one (.ptr 64 0 0), .one (.int .i64), .one (.ptr 80 0 0), .one (.int .i64), .one (.arr 96), .one (.int .i64), .one (.int .i64), .one (.int .i64), .one (.int .i64), .one (.int .i64), .one (.int .i64)]
def impl_Fewest_17_so : List So := [.var [.arr 96], .var [.arr 63], .var [.own 3000001 65 false], .arr 65 false, .var [.int .i64, .int .i64, .int .i64, .int .i64]]
def impl_Fewest_17_emb (c : Int × Int × List SHatch × Int × Int × Int × Int × Int × List SHatch × List SBox × SHatch) (x : Int × List SSpot) : EVs T impl_Fewest_17_sv × EOs T impl_Fewest_17_so := (((), (), (), c.1, (), c.2.1, c.2.2.1, c.2.2.2.1, c.2.2.2.2.1, c.2.2.2.2.2.1, c.2.2.2.2.2.2.1, c.2.2.2.2.2.2.2.1, x.1, ()), ((c.2.2.2.2.2.2.2.2.1, ()), (c.2.2.2.2.2.2.2.2.2.1, ()), ((), ()), x.2, (c.2.2.2.2.2.2.2.2.2.2.Rows, c.2.2.2.2.2.2.2.2.2.2.Tiers, c.2.2.2.2.2.2.2.2.2.2.Most, c.2.2.2.2.2.2.2.2.2.2.Plugs, ()), ()))
def impl_Fewest_17_prj (y : EVs T impl_Fewest_17_sv × EOs T impl_Fewest_17_so) : (Int × Int × List SHatch × Int × Int × Int × Int × Int × List SHatch × List SBox × SHatch) × (Int × List SSpot) := ((y.1.2.2.2.1, y.1.2.2.2.2.2.1, y.1.2.2.2.2.2.2.1, y.1.2.2.2.2.2.2.2.1, y.1.2.2.2.2.2.2.2.2.1, y.1.2.2.2.2.2.2.2.2.2.1, y.1.2.2.2.2.2.2.2.2.2.2.1, y.1.2.2.2.2.2.2.2.2.2.2.2.1, y.2.1.1, y.2.2.1.1, ((⟨y.2.2.2.2.2.1.1, y.2.2.2.2.2.1.2.1, y.2.2.2.2.2.1.2.2.1, y.2.2.2.2.2.1.2.2.2.1⟩ : SHatch) : SHatch)), (y.1.2.2.2.2.2.2.2.2.2.2.2.2.1, y.2.2.2.2.1))
def impl_Fewest_17_b (n : Nat) {R : Type} (K : Ex → Sm.St T → Option R) (c : Int × Int × List SHatch × Int × Int × Int × Int × Int × List SHatch × List SBox × SHatch) (x : Int × List SSpot) (J : (Int × List SSpot) → Option R) : Option R :=
  impl_Fewest_L17 n (fun (y8 : List SSpot) => K (.exit 6) (stOf (T := T) [2, 3, 8, 9, 10, 42, 43, 44, 50, 51] [16, 24, 64, 3000001, 80] [.one (.ptr 16 0 0), .one (.ptr 24 0 0), .one (.ptr 64 0 0), .one (.int .i64), .one (.ptr 80 0 0), .one (.arr 96), .one (.int .i64), .one (.int .i64), .one (.int .i64), .one (.int .i64)] [.var [.arr 96], .var [.arr 63], .var [.own 3000001 65 false], .arr 65 false, .var [.int .i64, .int .i64, .int .i64, .int .i64]] ((), (), (), c.1, (), c.2.2.1, c.2.2.2.1, c.2.2.2.2.1, c.2.2.2.2.2.1, c.2.2.2.2.2.2.1, ()) ((c.2.2.2.2.2.2.2.2.1, ()), (c.2.2.2.2.2.2.2.2.2.1, ()), ((), ()), y8, (c.2.2.2.2.2.2.2.2.2.2.Rows, c.2.2.2.2.2.2.2.2.2.2.Tiers, c.2.2.2.2.2.2.2.2.2.2.Most, c.2.2.2.2.2.2.2.2.2.2.Plugs, ()), ()))) (fun z0 z1 => J (z0, z1)) c.1 c.2.1 c.2.2.1 c.2.2.2.1 c.2.2.2.2.1 c.2.2.2.2.2.1 c.2.2.2.2.2.2.1 c.2.2.2.2.2.2.2.1 x.1 c.2.2.2.2.2.2.2.2.1 c.2.2.2.2.2.2.2.2.2.1 x.2 c.2.2.2.2.2.2.2.2.2.2
def impl_Fewest_17_sp (n : Nat) : LSpec T := mkSpec T ⟨[((.cell 64 0), 3000001, 65)], [2, 3, 8, 9, 10, 11, 42, 43, 44, 50, 51, 55, 56], [16, 24, 64, 3000001, 80]⟩ impl_Fewest_17_sv impl_Fewest_17_so (Int × Int × List SHatch × Int × Int × Int × Int × Int × List SHatch × List SBox × SHatch) (Int × List SSpot) impl_Fewest_17_emb impl_Fewest_17_prj (impl_Fewest_17_b n)
noncomputable def impl_Fewest_17_c : Code := ((loopCodes impl_Fewest_code)[3]?).getD .skip
def impl_Fewest_ann : Ann := fun id => bif Nat.beq id 3000004 then some ⟨[], [2, 3], [16, 24]⟩ else bif Nat.beq id 2000004 then some ⟨[((.reg 4), 3000000, 67)], [4, 5], [3000000]⟩ else bif Nat.beq id 5000011 then some ⟨[((.cell 64 0), 3000001, 65)], [2, 3, 8], [16, 24, 64, 3000001]⟩ else bif Nat.beq id 7000014 then some ⟨[((.cell 64 0), 3000001, 65)], [2, 3, 8, 42, 43, 44], [16, 24, 64, 3000001]⟩ else bif Nat.beq id 9000017 then some ⟨[((.cell 64 0), 3000001, 65)], [2, 3, 8, 9, 10, 42, 43, 44, 50, 51], [16, 24, 64, 3000001, 80]⟩ else bif Nat.beq id 25 then some ⟨[((.cell 64 0), 65, 999999)], [2, 3, 8], [16, 24, 64]⟩ else bif Nat.beq id 28 then some ⟨[((.reg 2), 47, 999997), ((.reg 3), 49, 999997), ((.reg 8), 94, 999997)], [2, 3, 8, 13, 14, 15], [104, 112, 120]⟩ else bif Nat.beq id 29 then some ⟨[((.reg 15), 0, 999996)], [2, 3, 8, 13, 14, 15, 72], [104, 112]⟩ else none
def impl_Fewest_Ls (n : Nat) : Nat → Option (LSpec T) := fun id => bif Nat.beq id 4 then some (impl_Fewest_4_sp n) else bif Nat.beq id 11 then some (impl_Fewest_11_sp n) else bif Nat.beq id 14 then some (impl_Fewest_14_sp n) else bif Nat.beq id 17 then some (impl_Fewest_17_sp n) else none
theorem impl_Fewest_4_le (n : Nat) : LoopEq (T := T) (Phi n 74) (impl_Fewest_Ls n) impl_Fewest_ann n impl_Fewest_4_c (impl_Fewest_4_sp n) := ⟨mkSpec_dec (fun y => rfl), fun c x => by kernel_rfl, fun K J c x => by kernel_rfl⟩
theorem impl_Fewest_11_le (n : Nat) : LoopEq (T := T) (Phi n 74) (impl_Fewest_Ls n) impl_Fewest_ann n impl_Fewest_11_c (impl_Fewest_11_sp n) := ⟨mkSpec_dec (fun y => rfl), fun c x => by kernel_rfl, fun K J c x => by kernel_rfl⟩
theorem impl_Fewest_14_le (n : Nat) : LoopEq (T := T) (Phi n 74) (impl_Fewest_Ls n) impl_Fewest_ann n impl_Fewest_14_c (impl_Fewest_14_sp n) := ⟨mkSpec_dec (fun y => rfl), fun c x => by kernel_rfl, fun K J c x => by kernel_rfl⟩
theorem impl_Fewest_17_le (n : Nat) : LoopEq (T := T) (Phi n 74) (impl_Fewest_Ls n) impl_Fewest_ann n impl_Fewest_17_c (impl_Fewest_17_sp n) := ⟨mkSpec_dec (fun y => rfl), fun c x => by kernel_rfl, fun K J c x => by kernel_rfl⟩
theorem impl_Fewest_tie (n : Nat) (bays0 : List SHatch) (boxes1 : List SBox) : evF (T := T) (Phi n 74) (impl_Fewest_Ls n) impl_Fewest_ann n Try.f16 (sg 16) [vA T 47 bays0, vA T 49 boxes1] impl_Fewest_dec = impl_Fewest n bays0 boxes1 := by kernel_rfl
theorem impl_Fewest_lo (n : Nat) : LoopsOk (T := T) (Phi n 74) (impl_Fewest_Ls n) impl_Fewest_ann n impl_Fewest_code := loopsOk_all (cs := [impl_Fewest_4_c, impl_Fewest_11_c, impl_Fewest_14_c, impl_Fewest_17_c]) (by kernel_rfl) ⟨⟨_, by kernel_rfl, impl_Fewest_4_le n⟩, ⟨_, by kernel_rfl, impl_Fewest_11_le n⟩, ⟨_, by kernel_rfl, impl_Fewest_14_le n⟩, ⟨_, by kernel_rfl, impl_Fewest_17_le n⟩, trivial⟩
theorem impl_Fewest_ok (n : Nat) : EntOk Try.prog (ents n) (impl_Fewest_ent n) := by
  intro hs ar y hg h
  replace h : impl_Fewest_D n ar = some y := h
  unfold impl_Fewest_D at h
  replace h := ocons_some h
  obtain ⟨a0, r0, rfl, h⟩ := h
  replace h := ocons_some h
  obtain ⟨a1, r1, rfl, h⟩ := h
  replace h := onil_some h
  obtain ⟨rfl, h⟩ := h
  obtain ⟨bays0, qh0, h⟩ := obind_some h
  obtain ⟨boxes1, qh1, h⟩ := obind_some h
  rw [argV_eq ok qh0, argV_eq ok qh1]
  exact call_of (phiE_nat _ _) hs ok mixed Try.func16 (c := impl_Fewest_code) (by kernel_rfl) (impl_Fewest_lo n) (by kernel_rfl) (by kernel_rfl) (by kernel_rfl) impl_Fewest_de ((impl_Fewest_tie n bays0 boxes1).trans h)
noncomputable def laws_eqBox_code : Code := match Try.f60.body with | some c => c | none => .skip
def laws_eqBox_ann : Ann := fun id => none
def laws_eqBox_Ls (n : Nat) : Nat → Option (LSpec T) := fun id => none
theorem laws_eqBox_tie (n : Nat) (a0 : SBox) (b1 : SBox) : evF (T := T) (Phi n 75) (laws_eqBox_Ls n) laws_eqBox_ann n Try.f60 (sg 60) [vA T 63 a0, vA T 63 b1] laws_eqBox_dec = laws_eqBox n a0 b1 := by kernel_rfl
theorem laws_eqBox_lo (n : Nat) : LoopsOk (T := T) (Phi n 75) (laws_eqBox_Ls n) laws_eqBox_ann n laws_eqBox_code := loopsOk_all (cs := []) (by kernel_rfl) trivial
theorem laws_eqBox_ok (n : Nat) : EntOk Try.prog (ents n) (laws_eqBox_ent n) := by
  intro hs ar y hg h
  replace h : laws_eqBox_D n ar = some y := h
  unfold laws_eqBox_D at h
  replace h := ocons_some h
  obtain ⟨a0, r0, rfl, h⟩ := h
  replace h := ocons_some h
  obtain ⟨a1, r1, rfl, h⟩ := h
  replace h := onil_some h
  obtain ⟨rfl, h⟩ := h
  obtain ⟨a0, qh0, h⟩ := obind_some h
  obtain ⟨b1, qh1, h⟩ := obind_some h
  rw [argV_eq ok qh0, argV_eq ok qh1]
  exact call_of (phiE_nat _ _) hs ok mixed Try.func60 (c := laws_eqBox_code) (by kernel_rfl) (laws_eqBox_lo n) (by kernel_rfl) (by kernel_rfl) (by kernel_rfl) laws_eqBox_de ((laws_eqBox_tie n a0 b1).trans h)
noncomputable def laws_eqSpot_code : Code := match Try.f105.body with | some c => c | none => .skip
def laws_eqSpot_ann : Ann := fun id => none
def laws_eqSpot_Ls (n : Nat) : Nat → Option (LSpec T) := fun id => none
theorem laws_eqSpot_tie (n : Nat) (a0 : SSpot) (b1 : SSpot) : evF (T := T) (Phi n 76) (laws_eqSpot_Ls n) laws_eqSpot_ann n Try.f105 (sg 105) [vA T 65 a0, vA T 65 b1] laws_eqSpot_dec = laws_eqSpot n a0 b1 := by kernel_rfl
theorem laws_eqSpot_lo (n : Nat) : LoopsOk (T := T) (Phi n 76) (laws_eqSpot_Ls n) laws_eqSpot_ann n laws_eqSpot_code := loopsOk_all (cs := []) (by kernel_rfl) trivial
theorem laws_eqSpot_ok (n : Nat) : EntOk Try.prog (ents n) (laws_eqSpot_ent n) := by
  intro hs ar y hg h
  replace h : laws_eqSpot_D n ar = some y := h
  unfold laws_eqSpot_D at h
  replace h := ocons_some h
  obtain ⟨a0, r0, rfl, h⟩ := h
  replace h := ocons_some h
  obtain ⟨a1, r1, rfl, h⟩ := h
  replace h := onil_some h
  obtain ⟨rfl, h⟩ := h
  obtain ⟨a0, qh0, h⟩ := obind_some h
  obtain ⟨b1, qh1, h⟩ := obind_some h
  rw [argV_eq ok qh0, argV_eq ok qh1]
  exact call_of (phiE_nat _ _) hs ok mixed Try.func105 (c := laws_eqSpot_code) (by kernel_rfl) (laws_eqSpot_lo n) (by kernel_rfl) (by kernel_rfl) (by kernel_rfl) laws_eqSpot_de ((laws_eqSpot_tie n a0 b1).trans h)
noncomputable def laws_eqStow_code : Code := match Try.f58.body with | some c => c | none => .skip
def laws_eqStow_ann : Ann := fun id => none
def laws_eqStow_Ls (n : Nat) : Nat → Option (LSpec T) := fun id => none
theorem laws_eqStow_tie (n : Nat) (a0 : SStow) (b1 : SStow) : evF (T := T) (Phi n 77) (laws_eqStow_Ls n) laws_eqStow_ann n Try.f58 (sg 58) [vA T 67 a0, vA T 67 b1] laws_eqStow_dec = laws_eqStow n a0 b1 := by kernel_rfl
theorem laws_eqStow_lo (n : Nat) : LoopsOk (T := T) (Phi n 77) (laws_eqStow_Ls n) laws_eqStow_ann n laws_eqStow_code := loopsOk_all (cs := []) (by kernel_rfl) trivial
theorem laws_eqStow_ok (n : Nat) : EntOk Try.prog (ents n) (laws_eqStow_ent n) := by
  intro hs ar y hg h
  replace h : laws_eqStow_D n ar = some y := h
  unfold laws_eqStow_D at h
  replace h := ocons_some h
  obtain ⟨a0, r0, rfl, h⟩ := h
  replace h := ocons_some h
  obtain ⟨a1, r1, rfl, h⟩ := h
  replace h := onil_some h
  obtain ⟨rfl, h⟩ := h
  obtain ⟨a0, qh0, h⟩ := obind_some h
  obtain ⟨b1, qh1, h⟩ := obind_some h
  rw [argV_eq ok qh0, argV_eq ok qh1]
  exact call_of (phiE_nat _ _) hs ok mixed Try.func58 (c := laws_eqStow_code) (by kernel_rfl) (laws_eqStow_lo n) (by kernel_rfl) (by kernel_rfl) (by kernel_rfl) laws_eqStow_de ((laws_eqStow_tie n a0 b1).trans h)
noncomputable def laws_eqStowS_code : Code := match Try.f17.body with | some c => c | none => .skip
def laws_eqStowS_4_sv : List Sv := [.one (.arr 67), .one (.arr 67), .one (.int .i64)]
def laws_eqStowS_4_so : List So := []
def laws_eqStowS_4_emb (c : List SStow × List SStow) (x : Int) : EVs T laws_eqStowS_4_sv × EOs T laws_eqStowS_4_so := ((c.1, c.2, x, ()), ())
def laws_eqStowS_4_prj (y : EVs T laws_eqStowS_4_sv × EOs T laws_eqStowS_4_so) : (List SStow × List SStow) × Int := ((y.1.1, y.1.2.1), (y.1.2.2.1))
def laws_eqStowS_4_b (n : Nat) {R : Type} (K : Ex → Sm.St T → Option R) (c : List SStow × List SStow) (x : Int) (J : Int → Option R) : Option R :=
  laws_eqStowS_L4 n (K (.exit 0) (stOf (T := T) [] [] [] [] () ())) (fun (y0 : Bool) => K .ret (stOf (T := T) [4] [] [.one (.bool)] [] (y0, ()) ())) J c.1 c.2 x
def laws_eqStowS_4_sp (n : Nat) : LSpec T := mkSpec T ⟨[], [0, 1, 5], []⟩ laws_eqStowS_4_sv laws_eqStowS_4_so (List SStow × List SStow) (Int) laws_eqStowS_4_emb laws_eqStowS_4_prj (laws_eqStowS_4_b n)
noncomputable def laws_eqStowS_4_c : Code := ((loopCodes laws_eqStowS_code)[0]?).getD .skip
def laws_eqStowS_ann : Ann := fun id => bif Nat.beq id 3000004 then some ⟨[], [], []⟩ else bif Nat.beq id 2000004 then some ⟨[], [4], []⟩ else none
def laws_eqStowS_Ls (n : Nat) : Nat → Option (LSpec T) := fun id => bif Nat.beq id 4 then some (laws_eqStowS_4_sp n) else none
theorem laws_eqStowS_4_le (n : Nat) : LoopEq (T := T) (Phi n 78) (laws_eqStowS_Ls n) laws_eqStowS_ann n laws_eqStowS_4_c (laws_eqStowS_4_sp n) := ⟨mkSpec_dec (fun y => rfl), fun c x => by kernel_rfl, fun K J c x => by kernel_rfl⟩
theorem laws_eqStowS_tie (n : Nat) (a0 : List SStow) (b1 : List SStow) : evF (T := T) (Phi n 78) (laws_eqStowS_Ls n) laws_eqStowS_ann n Try.f17 (sg 17) [vA T 44 a0, vA T 44 b1] laws_eqStowS_dec = laws_eqStowS n a0 b1 := by kernel_rfl
theorem laws_eqStowS_lo (n : Nat) : LoopsOk (T := T) (Phi n 78) (laws_eqStowS_Ls n) laws_eqStowS_ann n laws_eqStowS_code := loopsOk_all (cs := [laws_eqStowS_4_c]) (by kernel_rfl) ⟨⟨_, by kernel_rfl, laws_eqStowS_4_le n⟩, trivial⟩
theorem laws_eqStowS_ok (n : Nat) : EntOk Try.prog (ents n) (laws_eqStowS_ent n) := by
  intro hs ar y hg h
  replace h : laws_eqStowS_D n ar = some y := h
  unfold laws_eqStowS_D at h
  replace h := ocons_some h
  obtain ⟨a0, r0, rfl, h⟩ := h
  replace h := ocons_some h
  obtain ⟨a1, r1, rfl, h⟩ := h
  replace h := onil_some h
  obtain ⟨rfl, h⟩ := h
  obtain ⟨a0, qh0, h⟩ := obind_some h
  obtain ⟨b1, qh1, h⟩ := obind_some h
  rw [argV_eq ok qh0, argV_eq ok qh1]
  exact call_of (phiE_nat _ _) hs ok mixed Try.func17 (c := laws_eqStowS_code) (by kernel_rfl) (laws_eqStowS_lo n) (by kernel_rfl) (by kernel_rfl) (by kernel_rfl) laws_eqStowS_de ((laws_eqStowS_tie n a0 b1).trans h)
noncomputable def laws_eqHatch_code : Code := match Try.f59.body with | some c => c | none => .skip
def laws_eqHatch_ann : Ann := fun id => none
def laws_eqHatch_Ls (n : Nat) : Nat → Option (LSpec T) := fun id => none
theorem laws_eqHatch_tie (n : Nat) (a0 : SHatch) (b1 : SHatch) : evF (T := T) (Phi n 79) (laws_eqHatch_Ls n) laws_eqHatch_ann n Try.f59 (sg 59) [vA T 96 a0, vA T 96 b1] laws_eqHatch_dec = laws_eqHatch n a0 b1 := by kernel_rfl
theorem laws_eqHatch_lo (n : Nat) : LoopsOk (T := T) (Phi n 79) (laws_eqHatch_Ls n) laws_eqHatch_ann n laws_eqHatch_code := loopsOk_all (cs := []) (by kernel_rfl) trivial
theorem laws_eqHatch_ok (n : Nat) : EntOk Try.prog (ents n) (laws_eqHatch_ent n) := by
  intro hs ar y hg h
  replace h : laws_eqHatch_D n ar = some y := h
  unfold laws_eqHatch_D at h
  replace h := ocons_some h
  obtain ⟨a0, r0, rfl, h⟩ := h
  replace h := ocons_some h
  obtain ⟨a1, r1, rfl, h⟩ := h
  replace h := onil_some h
  obtain ⟨rfl, h⟩ := h
  obtain ⟨a0, qh0, h⟩ := obind_some h
  obtain ⟨b1, qh1, h⟩ := obind_some h
  rw [argV_eq ok qh0, argV_eq ok qh1]
  exact call_of (phiE_nat _ _) hs ok mixed Try.func59 (c := laws_eqHatch_code) (by kernel_rfl) (laws_eqHatch_lo n) (by kernel_rfl) (by kernel_rfl) (by kernel_rfl) laws_eqHatch_de ((laws_eqHatch_tie n a0 b1).trans h)
noncomputable def laws_eqHatchS_code : Code := match Try.f18.body with | some c => c | none => .skip
def laws_eqHatchS_4_sv : List Sv := [.one (.arr 96), .one (.arr 96), .one (.int .i64)]
def laws_eqHatchS_4_so : List So := []
def laws_eqHatchS_4_emb (c : List SHatch × List SHatch) (x : Int) : EVs T laws_eqHatchS_4_sv × EOs T laws_eqHatchS_4_so := ((c.1, c.2, x, ()), ())
def laws_eqHatchS_4_prj (y : EVs T laws_eqHatchS_4_sv × EOs T laws_eqHatchS_4_so) : (List SHatch × List SHatch) × Int := ((y.1.1, y.1.2.1), (y.1.2.2.1))
def laws_eqHatchS_4_b (n : Nat) {R : Type} (K : Ex → Sm.St T → Option R) (c : List SHatch × List SHatch) (x : Int) (J : Int → Option R) : Option R :=
  laws_eqHatchS_L4 n (K (.exit 0) (stOf (T := T) [] [] [] [] () ())) (fun (y0 : Bool) => K .ret (stOf (T := T) [4] [] [.one (.bool)] [] (y0, ()) ())) J c.1 c.2 x
def laws_eqHatchS_4_sp (n : Nat) : LSpec T := mkSpec T ⟨[], [0, 1, 5], []⟩ laws_eqHatchS_4_sv laws_eqHatchS_4_so (List SHatch × List SHatch) (Int) laws_eqHatchS_4_emb laws_eqHatchS_4_prj (laws_eqHatchS_4_b n)
noncomputable def laws_eqHatchS_4_c : Code := ((loopCodes laws_eqHatchS_code)[0]?).getD .skip
def laws_eqHatchS_ann : Ann := fun id => bif Nat.beq id 3000004 then some ⟨[], [], []⟩ else bif Nat.beq id 2000004 then some ⟨[], [4], []⟩ else none
def laws_eqHatchS_Ls (n : Nat) : Nat → Option (LSpec T) := fun id => bif Nat.beq id 4 then some (laws_eqHatchS_4_sp n) else none
theorem laws_eqHatchS_4_le (n : Nat) : LoopEq (T := T) (Phi n 80) (laws_eqHatchS_Ls n) laws_eqHatchS_ann n laws_eqHatchS_4_c (laws_eqHatchS_4_sp n) := ⟨mkSpec_dec (fun y => rfl), fun c x => by kernel_rfl, fun K J c x => by kernel_rfl⟩
theorem laws_eqHatchS_tie (n : Nat) (a0 : List SHatch) (b1 : List SHatch) : evF (T := T) (Phi n 80) (laws_eqHatchS_Ls n) laws_eqHatchS_ann n Try.f18 (sg 18) [vA T 47 a0, vA T 47 b1] laws_eqHatchS_dec = laws_eqHatchS n a0 b1 := by kernel_rfl
theorem laws_eqHatchS_lo (n : Nat) : LoopsOk (T := T) (Phi n 80) (laws_eqHatchS_Ls n) laws_eqHatchS_ann n laws_eqHatchS_code := loopsOk_all (cs := [laws_eqHatchS_4_c]) (by kernel_rfl) ⟨⟨_, by kernel_rfl, laws_eqHatchS_4_le n⟩, trivial⟩
theorem laws_eqHatchS_ok (n : Nat) : EntOk Try.prog (ents n) (laws_eqHatchS_ent n) := by
  intro hs ar y hg h
  replace h : laws_eqHatchS_D n ar = some y := h
  unfold laws_eqHatchS_D at h
  replace h := ocons_some h
  obtain ⟨a0, r0, rfl, h⟩ := h
  replace h := ocons_some h
  obtain ⟨a1, r1, rfl, h⟩ := h
  replace h := onil_some h
  obtain ⟨rfl, h⟩ := h
  obtain ⟨a0, qh0, h⟩ := obind_some h
  obtain ⟨b1, qh1, h⟩ := obind_some h
  rw [argV_eq ok qh0, argV_eq ok qh1]
  exact call_of (phiE_nat _ _) hs ok mixed Try.func18 (c := laws_eqHatchS_code) (by kernel_rfl) (laws_eqHatchS_lo n) (by kernel_rfl) (by kernel_rfl) (by kernel_rfl) laws_eqHatchS_de ((laws_eqHatchS_tie n a0 b1).trans h)
noncomputable def laws_eqBoxS_code : Code := match Try.f19.body with | some c => c | none => .skip
def laws_eqBoxS_4_sv : List Sv := [.one (.arr 63), .one (.arr 63), .one (.int .i64)]
def laws_eqBoxS_4_so : List So := []
def laws_eqBoxS_4_emb (c : List SBox × List SBox) (x : Int) : EVs T laws_eqBoxS_4_sv × EOs T laws_eqBoxS_4_so := ((c.1, c.2, x, ()), ())
def laws_eqBoxS_4_prj (y : EVs T laws_eqBoxS_4_sv × EOs T laws_eqBoxS_4_so) : (List SBox × List SBox) × Int := ((y.1.1, y.1.2.1), (y.1.2.2.1))
def laws_eqBoxS_4_b (n : Nat) {R : Type} (K : Ex → Sm.St T → Option R) (c : List SBox × List SBox) (x : Int) (J : Int → Option R) : Option R :=
  laws_eqBoxS_L4 n (K (.exit 0) (stOf (T := T) [] [] [] [] () ())) (fun (y0 : Bool) => K .ret (stOf (T := T) [4] [] [.one (.bool)] [] (y0, ()) ())) J c.1 c.2 x
def laws_eqBoxS_4_sp (n : Nat) : LSpec T := mkSpec T ⟨[], [0, 1, 5], []⟩ laws_eqBoxS_4_sv laws_eqBoxS_4_so (List SBox × List SBox) (Int) laws_eqBoxS_4_emb laws_eqBoxS_4_prj (laws_eqBoxS_4_b n)
noncomputable def laws_eqBoxS_4_c : Code := ((loopCodes laws_eqBoxS_code)[0]?).getD .skip
def laws_eqBoxS_ann : Ann := fun id => bif Nat.beq id 3000004 then some ⟨[], [], []⟩ else bif Nat.beq id 2000004 then some ⟨[], [4], []⟩ else none
def laws_eqBoxS_Ls (n : Nat) : Nat → Option (LSpec T) := fun id => bif Nat.beq id 4 then some (laws_eqBoxS_4_sp n) else none
theorem laws_eqBoxS_4_le (n : Nat) : LoopEq (T := T) (Phi n 81) (laws_eqBoxS_Ls n) laws_eqBoxS_ann n laws_eqBoxS_4_c (laws_eqBoxS_4_sp n) := ⟨mkSpec_dec (fun y => rfl), fun c x => by kernel_rfl, fun K J c x => by kernel_rfl⟩
theorem laws_eqBoxS_tie (n : Nat) (a0 : List SBox) (b1 : List SBox) : evF (T := T) (Phi n 81) (laws_eqBoxS_Ls n) laws_eqBoxS_ann n Try.f19 (sg 19) [vA T 49 a0, vA T 49 b1] laws_eqBoxS_dec = laws_eqBoxS n a0 b1 := by kernel_rfl
theorem laws_eqBoxS_lo (n : Nat) : LoopsOk (T := T) (Phi n 81) (laws_eqBoxS_Ls n) laws_eqBoxS_ann n laws_eqBoxS_code := loopsOk_all (cs := [laws_eqBoxS_4_c]) (by kernel_rfl) ⟨⟨_, by kernel_rfl, laws_eqBoxS_4_le n⟩, trivial⟩
theorem laws_eqBoxS_ok (n : Nat) : EntOk Try.prog (ents n) (laws_eqBoxS_ent n) := by
  intro hs ar y hg h
  replace h : laws_eqBoxS_D n ar = some y := h
  unfold laws_eqBoxS_D at h
  replace h := ocons_some h
  obtain ⟨a0, r0, rfl, h⟩ := h
  replace h := ocons_some h
  obtain ⟨a1, r1, rfl, h⟩ := h
  replace h := onil_some h
  obtain ⟨rfl, h⟩ := h
  obtain ⟨a0, qh0, h⟩ := obind_some h
  obtain ⟨b1, qh1, h⟩ := obind_some h
  rw [argV_eq ok qh0, argV_eq ok qh1]
  exact call_of (phiE_nat _ _) hs ok mixed Try.func19 (c := laws_eqBoxS_code) (by kernel_rfl) (laws_eqBoxS_lo n) (by kernel_rfl) (by kernel_rfl) (by kernel_rfl) laws_eqBoxS_de ((laws_eqBoxS_tie n a0 b1).trans h)
noncomputable def laws_markHatchS_code : Code := match Try.f20.body with | some c => c | none => .skip
def laws_markHatchS_2_sv : List Sv := [.one (.own 4503599627370496 96 false), .one (.int .i64), .one (.int .i64)]
def laws_markHatchS_2_so : List So := [.arr 96 true]
def laws_markHatchS_2_emb (c : Unit) (x : Int × Int × List SHatch) : EVs T laws_markHatchS_2_sv × EOs T laws_markHatchS_2_so := (((), x.1, x.2.1, ()), (x.2.2, ()))
def laws_markHatchS_2_prj (y : EVs T laws_markHatchS_2_sv × EOs T laws_markHatchS_2_so) : Unit × (Int × Int × List SHatch) := ((), (y.1.2.1, y.1.2.2.1, y.2.1))
def laws_markHatchS_2_b (n : Nat) {R : Type} (K : Ex → Sm.St T → Option R) (c : Unit) (x : Int × Int × List SHatch) (J : (Int × Int × List SHatch) → Option R) : Option R :=
  laws_markHatchS_L2 n (fun (y0 : Int) (y1 : List SHatch) => K (.exit 0) (stOf (T := T) [1] [4503599627370496] [.one (.int .i64)] [.arr 96 true] (y0, ()) (y1, ()))) (fun z0 z1 z2 => J (z0, z1, z2)) x.1 x.2.1 x.2.2
def laws_markHatchS_2_sp (n : Nat) : LSpec T := mkSpec T ⟨[], [0, 1, 5], [4503599627370496]⟩ laws_markHatchS_2_sv laws_markHatchS_2_so (Unit) (Int × Int × List SHatch) laws_markHatchS_2_emb laws_markHatchS_2_prj (laws_markHatchS_2_b n)
noncomputable def laws_markHatchS_2_c : Code := ((loopCodes laws_markHatchS_code)[0]?).getD .skip
def laws_markHatchS_ann : Ann := fun id => bif Nat.beq id 3000002 then some ⟨[], [1], [4503599627370496]⟩ else none
def laws_markHatchS_Ls (n : Nat) : Nat → Option (LSpec T) := fun id => bif Nat.beq id 2 then some (laws_markHatchS_2_sp n) else none
theorem laws_markHatchS_2_le (n : Nat) : LoopEq (T := T) (Phi n 82) (laws_markHatchS_Ls n) laws_markHatchS_ann n laws_markHatchS_2_c (laws_markHatchS_2_sp n) := ⟨mkSpec_dec (fun y => rfl), fun c x => by kernel_rfl, fun K J c x => by kernel_rfl⟩
theorem laws_markHatchS_tie (n : Nat) (a0 : List SHatch) (k1 : Int) : evF (T := T) (Phi n 82) (laws_markHatchS_Ls n) laws_markHatchS_ann n Try.f20 (sg 20) [vA T 47 a0, vA T 3 k1] laws_markHatchS_dec = laws_markHatchS n a0 k1 := by kernel_rfl
theorem laws_markHatchS_lo (n : Nat) : LoopsOk (T := T) (Phi n 82) (laws_markHatchS_Ls n) laws_markHatchS_ann n laws_markHatchS_code := loopsOk_all (cs := [laws_markHatchS_2_c]) (by kernel_rfl) ⟨⟨_, by kernel_rfl, laws_markHatchS_2_le n⟩, trivial⟩
theorem laws_markHatchS_ok (n : Nat) : EntOk Try.prog (ents n) (laws_markHatchS_ent n) := by
  intro hs ar y hg h
  replace h : laws_markHatchS_D n ar = some y := h
  unfold laws_markHatchS_D at h
  replace h := ocons_some h
  obtain ⟨a0, r0, rfl, h⟩ := h
  replace h := ocons_some h
  obtain ⟨a1, r1, rfl, h⟩ := h
  replace h := onil_some h
  obtain ⟨rfl, h⟩ := h
  obtain ⟨a0, qh0, h⟩ := obind_some h
  obtain ⟨k1, qh1, h⟩ := obind_some h
  rw [argV_eq ok qh0, argV_eq ok qh1]
  exact call_of (phiE_nat _ _) hs ok mixed Try.func20 (c := laws_markHatchS_code) (by kernel_rfl) (laws_markHatchS_lo n) (by kernel_rfl) (by kernel_rfl) (by kernel_rfl) laws_markHatchS_de ((laws_markHatchS_tie n a0 k1).trans h)
noncomputable def laws_markText_code : Code := match Try.f61.body with | some c => c | none => .skip
def laws_markText_4_sv : List Sv := [.one (.int .i64), .one (.str)]
def laws_markText_4_so : List So := []
def laws_markText_4_emb (c : Unit) (x : Int × ByteArray) : EVs T laws_markText_4_sv × EOs T laws_markText_4_so := ((x.1, x.2, ()), ())
def laws_markText_4_prj (y : EVs T laws_markText_4_sv × EOs T laws_markText_4_so) : Unit × (Int × ByteArray) := ((), (y.1.1, y.1.2.1))
def laws_markText_4_b (n : Nat) {R : Type} (K : Ex → Sm.St T → Option R) (c : Unit) (x : Int × ByteArray) (J : (Int × ByteArray) → Option R) : Option R :=
  laws_markText_L4 n (fun (y0 : ByteArray) => K (.exit 0) (stOf (T := T) [3] [] [.one (.str)] [] (y0, ()) ())) (fun z0 z1 => J (z0, z1)) x.1 x.2
def laws_markText_4_sp (n : Nat) : LSpec T := mkSpec T ⟨[], [0, 3], []⟩ laws_markText_4_sv laws_markText_4_so (Unit) (Int × ByteArray) laws_markText_4_emb laws_markText_4_prj (laws_markText_4_b n)
noncomputable def laws_markText_4_c : Code := ((loopCodes laws_markText_code)[0]?).getD .skip
def laws_markText_ann : Ann := fun id => bif Nat.beq id 3000004 then some ⟨[], [3], []⟩ else none
def laws_markText_Ls (n : Nat) : Nat → Option (LSpec T) := fun id => bif Nat.beq id 4 then some (laws_markText_4_sp n) else none
theorem laws_markText_4_le (n : Nat) : LoopEq (T := T) (Phi n 83) (laws_markText_Ls n) laws_markText_ann n laws_markText_4_c (laws_markText_4_sp n) := ⟨mkSpec_dec (fun y => rfl), fun c x => by kernel_rfl, fun K J c x => by kernel_rfl⟩
theorem laws_markText_tie (n : Nat) (k0 : Int) : evF (T := T) (Phi n 83) (laws_markText_Ls n) laws_markText_ann n Try.f61 (sg 61) [vA T 3 k0] laws_markText_dec = laws_markText n k0 := by kernel_rfl
theorem laws_markText_lo (n : Nat) : LoopsOk (T := T) (Phi n 83) (laws_markText_Ls n) laws_markText_ann n laws_markText_code := loopsOk_all (cs := [laws_markText_4_c]) (by kernel_rfl) ⟨⟨_, by kernel_rfl, laws_markText_4_le n⟩, trivial⟩
theorem laws_markText_ok (n : Nat) : EntOk Try.prog (ents n) (laws_markText_ent n) := by
  intro hs ar y hg h
  replace h : laws_markText_D n ar = some y := h
  unfold laws_markText_D at h
  replace h := ocons_some h
  obtain ⟨a0, r0, rfl, h⟩ := h
  replace h := onil_some h
  obtain ⟨rfl, h⟩ := h
  obtain ⟨k0, qh0, h⟩ := obind_some h
  rw [argV_eq ok qh0]
  exact call_of (phiE_nat _ _) hs ok mixed Try.func61 (c := laws_markText_code) (by kernel_rfl) (laws_markText_lo n) (by kernel_rfl) (by kernel_rfl) (by kernel_rfl) laws_markText_de ((laws_markText_tie n k0).trans h)
noncomputable def laws_markBoxS_code : Code := match Try.f21.body with | some c => c | none => .skip
def laws_markBoxS_2_sv : List Sv := [.one (.own 4503599627370496 63 false), .one (.int .i64), .one (.int .i64)]
def laws_markBoxS_2_so : List So := [.arr 63 true]
def laws_markBoxS_2_emb (c : Unit) (x : Int × Int × List SBox) : EVs T laws_markBoxS_2_sv × EOs T laws_markBoxS_2_so := (((), x.1, x.2.1, ()), (x.2.2, ()))
def laws_markBoxS_2_prj (y : EVs T laws_markBoxS_2_sv × EOs T laws_markBoxS_2_so) : Unit × (Int × Int × List SBox) := ((), (y.1.2.1, y.1.2.2.1, y.2.1))
def laws_markBoxS_2_b (n : Nat) {R : Type} (K : Ex → Sm.St T → Option R) (c : Unit) (x : Int × Int × List SBox) (J : (Int × Int × List SBox) → Option R) : Option R :=
  laws_markBoxS_L2 n (fun (y0 : Int) (y1 : List SBox) => K (.exit 0) (stOf (T := T) [1] [4503599627370496] [.one (.int .i64)] [.arr 63 true] (y0, ()) (y1, ()))) (fun z0 z1 z2 => J (z0, z1, z2)) x.1 x.2.1 x.2.2
def laws_markBoxS_2_sp (n : Nat) : LSpec T := mkSpec T ⟨[], [0, 1, 5], [4503599627370496]⟩ laws_markBoxS_2_sv laws_markBoxS_2_so (Unit) (Int × Int × List SBox) laws_markBoxS_2_emb laws_markBoxS_2_prj (laws_markBoxS_2_b n)
noncomputable def laws_markBoxS_2_c : Code := ((loopCodes laws_markBoxS_code)[0]?).getD .skip
def laws_markBoxS_ann : Ann := fun id => bif Nat.beq id 3000002 then some ⟨[], [1], [4503599627370496]⟩ else none
def laws_markBoxS_Ls (n : Nat) : Nat → Option (LSpec T) := fun id => bif Nat.beq id 2 then some (laws_markBoxS_2_sp n) else none
theorem laws_markBoxS_2_le (n : Nat) : LoopEq (T := T) (Phi n 84) (laws_markBoxS_Ls n) laws_markBoxS_ann n laws_markBoxS_2_c (laws_markBoxS_2_sp n) := ⟨mkSpec_dec (fun y => rfl), fun c x => by kernel_rfl, fun K J c x => by kernel_rfl⟩
theorem laws_markBoxS_tie (n : Nat) (a0 : List SBox) (k1 : Int) : evF (T := T) (Phi n 84) (laws_markBoxS_Ls n) laws_markBoxS_ann n Try.f21 (sg 21) [vA T 49 a0, vA T 3 k1] laws_markBoxS_dec = laws_markBoxS n a0 k1 := by kernel_rfl
theorem laws_markBoxS_lo (n : Nat) : LoopsOk (T := T) (Phi n 84) (laws_markBoxS_Ls n) laws_markBoxS_ann n laws_markBoxS_code := loopsOk_all (cs := [laws_markBoxS_2_c]) (by kernel_rfl) ⟨⟨_, by kernel_rfl, laws_markBoxS_2_le n⟩, trivial⟩
theorem laws_markBoxS_ok (n : Nat) : EntOk Try.prog (ents n) (laws_markBoxS_ent n) := by
  intro hs ar y hg h
  replace h : laws_markBoxS_D n ar = some y := h
  unfold laws_markBoxS_D at h
  replace h := ocons_some h
  obtain ⟨a0, r0, rfl, h⟩ := h
  replace h := ocons_some h
  obtain ⟨a1, r1, rfl, h⟩ := h
  replace h := onil_some h
  obtain ⟨rfl, h⟩ := h
  obtain ⟨a0, qh0, h⟩ := obind_some h
  obtain ⟨k1, qh1, h⟩ := obind_some h
  rw [argV_eq ok qh0, argV_eq ok qh1]
  exact call_of (phiE_nat _ _) hs ok mixed Try.func21 (c := laws_markBoxS_code) (by kernel_rfl) (laws_markBoxS_lo n) (by kernel_rfl) (by kernel_rfl) (by kernel_rfl) laws_markBoxS_de ((laws_markBoxS_tie n a0 k1).trans h)
noncomputable def laws_markStowS_code : Code := match Try.f22.body with | some c => c | none => .skip
def laws_markStowS_2_sv : List Sv := [.one (.own 4503599627370496 67 false), .one (.int .i64), .one (.int .i64)]
def laws_markStowS_2_so : List So := [.arr 67 true]
def laws_markStowS_2_emb (c : Unit) (x : Int × Int × List SStow) : EVs T laws_markStowS_2_sv × EOs T laws_markStowS_2_so := (((), x.1, x.2.1, ()), (x.2.2, ()))
def laws_markStowS_2_prj (y : EVs T laws_markStowS_2_sv × EOs T laws_markStowS_2_so) : Unit × (Int × Int × List SStow) := ((), (y.1.2.1, y.1.2.2.1, y.2.1))
def laws_markStowS_2_b (n : Nat) {R : Type} (K : Ex → Sm.St T → Option R) (c : Unit) (x : Int × Int × List SStow) (J : (Int × Int × List SStow) → Option R) : Option R :=
  laws_markStowS_L2 n (fun (y0 : Int) (y1 : List SStow) => K (.exit 0) (stOf (T := T) [1] [4503599627370496] [.one (.int .i64)] [.arr 67 true] (y0, ()) (y1, ()))) (fun z0 z1 z2 => J (z0, z1, z2)) x.1 x.2.1 x.2.2
def laws_markStowS_2_sp (n : Nat) : LSpec T := mkSpec T ⟨[], [0, 1, 5], [4503599627370496]⟩ laws_markStowS_2_sv laws_markStowS_2_so (Unit) (Int × Int × List SStow) laws_markStowS_2_emb laws_markStowS_2_prj (laws_markStowS_2_b n)
noncomputable def laws_markStowS_2_c : Code := ((loopCodes laws_markStowS_code)[0]?).getD .skip
def laws_markStowS_ann : Ann := fun id => bif Nat.beq id 3000002 then some ⟨[], [1], [4503599627370496]⟩ else none
def laws_markStowS_Ls (n : Nat) : Nat → Option (LSpec T) := fun id => bif Nat.beq id 2 then some (laws_markStowS_2_sp n) else none
theorem laws_markStowS_2_le (n : Nat) : LoopEq (T := T) (Phi n 85) (laws_markStowS_Ls n) laws_markStowS_ann n laws_markStowS_2_c (laws_markStowS_2_sp n) := ⟨mkSpec_dec (fun y => rfl), fun c x => by kernel_rfl, fun K J c x => by kernel_rfl⟩
theorem laws_markStowS_tie (n : Nat) (a0 : List SStow) (k1 : Int) : evF (T := T) (Phi n 85) (laws_markStowS_Ls n) laws_markStowS_ann n Try.f22 (sg 22) [vA T 44 a0, vA T 3 k1] laws_markStowS_dec = laws_markStowS n a0 k1 := by kernel_rfl
theorem laws_markStowS_lo (n : Nat) : LoopsOk (T := T) (Phi n 85) (laws_markStowS_Ls n) laws_markStowS_ann n laws_markStowS_code := loopsOk_all (cs := [laws_markStowS_2_c]) (by kernel_rfl) ⟨⟨_, by kernel_rfl, laws_markStowS_2_le n⟩, trivial⟩
theorem laws_markStowS_ok (n : Nat) : EntOk Try.prog (ents n) (laws_markStowS_ent n) := by
  intro hs ar y hg h
  replace h : laws_markStowS_D n ar = some y := h
  unfold laws_markStowS_D at h
  replace h := ocons_some h
  obtain ⟨a0, r0, rfl, h⟩ := h
  replace h := ocons_some h
  obtain ⟨a1, r1, rfl, h⟩ := h
  replace h := onil_some h
  obtain ⟨rfl, h⟩ := h
  obtain ⟨a0, qh0, h⟩ := obind_some h
  obtain ⟨k1, qh1, h⟩ := obind_some h
  rw [argV_eq ok qh0, argV_eq ok qh1]
  exact call_of (phiE_nat _ _) hs ok mixed Try.func22 (c := laws_markStowS_code) (by kernel_rfl) (laws_markStowS_lo n) (by kernel_rfl) (by kernel_rfl) (by kernel_rfl) laws_markStowS_de ((laws_markStowS_tie n a0 k1).trans h)
noncomputable def laws_heldStowS_code : Code := match Try.f23.body with | some c => c | none => .skip
def laws_heldStowS_2_sv : List Sv := [.one (.arr 67), .one (.int .i64), .one (.int .i64)]
def laws_heldStowS_2_so : List So := []
def laws_heldStowS_2_emb (c : List SStow) (x : Int × Int) : EVs T laws_heldStowS_2_sv × EOs T laws_heldStowS_2_so := ((c, x.1, x.2, ()), ())
def laws_heldStowS_2_prj (y : EVs T laws_heldStowS_2_sv × EOs T laws_heldStowS_2_so) : List SStow × (Int × Int) := ((y.1.1), (y.1.2.1, y.1.2.2.1))
def laws_heldStowS_2_b (n : Nat) {R : Type} (K : Ex → Sm.St T → Option R) (c : List SStow) (x : Int × Int) (J : (Int × Int) → Option R) : Option R :=
  laws_heldStowS_L2 n (fun (y0 : Int) => K (.exit 0) (stOf (T := T) [1] [] [.one (.int .i64)] [] (y0, ()) ())) (fun (y0 : Int) => K .ret (stOf (T := T) [4] [] [.one (.int .i64)] [] (y0, ()) ())) (fun z0 z1 => J (z0, z1)) c x.1 x.2
def laws_heldStowS_2_sp (n : Nat) : LSpec T := mkSpec T ⟨[], [0, 1, 5], []⟩ laws_heldStowS_2_sv laws_heldStowS_2_so (List SStow) (Int × Int) laws_heldStowS_2_emb laws_heldStowS_2_prj (laws_heldStowS_2_b n)
noncomputable def laws_heldStowS_2_c : Code := ((loopCodes laws_heldStowS_code)[0]?).getD .skip
def laws_heldStowS_ann : Ann := fun id => bif Nat.beq id 3000002 then some ⟨[], [1], []⟩ else bif Nat.beq id 2000002 then some ⟨[], [4], []⟩ else none
def laws_heldStowS_Ls (n : Nat) : Nat → Option (LSpec T) := fun id => bif Nat.beq id 2 then some (laws_heldStowS_2_sp n) else none
theorem laws_heldStowS_2_le (n : Nat) : LoopEq (T := T) (Phi n 86) (laws_heldStowS_Ls n) laws_heldStowS_ann n laws_heldStowS_2_c (laws_heldStowS_2_sp n) := ⟨mkSpec_dec (fun y => rfl), fun c x => by kernel_rfl, fun K J c x => by kernel_rfl⟩
theorem laws_heldStowS_tie (n : Nat) (a0 : List SStow) (k1 : Int) : evF (T := T) (Phi n 86) (laws_heldStowS_Ls n) laws_heldStowS_ann n Try.f23 (sg 23) [vA T 44 a0, vA T 3 k1] laws_heldStowS_dec = laws_heldStowS n a0 k1 := by kernel_rfl
theorem laws_heldStowS_lo (n : Nat) : LoopsOk (T := T) (Phi n 86) (laws_heldStowS_Ls n) laws_heldStowS_ann n laws_heldStowS_code := loopsOk_all (cs := [laws_heldStowS_2_c]) (by kernel_rfl) ⟨⟨_, by kernel_rfl, laws_heldStowS_2_le n⟩, trivial⟩
theorem laws_heldStowS_ok (n : Nat) : EntOk Try.prog (ents n) (laws_heldStowS_ent n) := by
  intro hs ar y hg h
  replace h : laws_heldStowS_D n ar = some y := h
  unfold laws_heldStowS_D at h
  replace h := ocons_some h
  obtain ⟨a0, r0, rfl, h⟩ := h
  replace h := ocons_some h
  obtain ⟨a1, r1, rfl, h⟩ := h
  replace h := onil_some h
  obtain ⟨rfl, h⟩ := h
  obtain ⟨a0, qh0, h⟩ := obind_some h
  obtain ⟨k1, qh1, h⟩ := obind_some h
  rw [argV_eq ok qh0, argV_eq ok qh1]
  exact call_of (phiE_nat _ _) hs ok mixed Try.func23 (c := laws_heldStowS_code) (by kernel_rfl) (laws_heldStowS_lo n) (by kernel_rfl) (by kernel_rfl) (by kernel_rfl) laws_heldStowS_de ((laws_heldStowS_tie n a0 k1).trans h)
noncomputable def laws_FnExactFewest_code : Code := match Try.f4.body with | some c => c | none => .skip
def laws_FnExactFewest_ann : Ann := fun id => none
def laws_FnExactFewest_Ls (n : Nat) : Nat → Option (LSpec T) := fun id => none
theorem laws_FnExactFewest_tie (n : Nat) (aBays0 : List SHatch) (aBoxes1 : List SBox) : evF (T := T) (Phi n 87) (laws_FnExactFewest_Ls n) laws_FnExactFewest_ann n Try.f4 (sg 4) [vA T 40 aBays0, vA T 41 aBoxes1] laws_FnExactFewest_dec = laws_FnExactFewest n aBays0 aBoxes1 := by kernel_rfl
theorem laws_FnExactFewest_lo (n : Nat) : LoopsOk (T := T) (Phi n 87) (laws_FnExactFewest_Ls n) laws_FnExactFewest_ann n laws_FnExactFewest_code := loopsOk_all (cs := []) (by kernel_rfl) trivial
theorem laws_FnExactFewest_ok (n : Nat) : EntOk Try.prog (ents n) (laws_FnExactFewest_ent n) := by
  intro hs ar y hg h
  replace h : laws_FnExactFewest_D n ar = some y := h
  unfold laws_FnExactFewest_D at h
  replace h := ocons_some h
  obtain ⟨a0, r0, rfl, h⟩ := h
  replace h := ocons_some h
  obtain ⟨a1, r1, rfl, h⟩ := h
  replace h := onil_some h
  obtain ⟨rfl, h⟩ := h
  obtain ⟨aBays0, qh0, h⟩ := obind_some h
  obtain ⟨aBoxes1, qh1, h⟩ := obind_some h
  rw [argV_eq ok qh0, argV_eq ok qh1]
  exact call_of (phiE_nat _ _) hs ok mixed Try.func4 (c := laws_FnExactFewest_code) (by kernel_rfl) (laws_FnExactFewest_lo n) (by kernel_rfl) (by kernel_rfl) (by kernel_rfl) laws_FnExactFewest_de ((laws_FnExactFewest_tie n aBays0 aBoxes1).trans h)
theorem entsOk (n : Nat) : EntsOk Try.prog (ents n) (ents n) := ⟨laws_szHatchS_ok n, laws_szBox_ok n, laws_szBoxS_ok n, laws_toHatch_ok n, laws_toHatchS_ok n, laws_toBox_ok n, laws_toBoxS_ok n, spec_l1In_ok n, spec_HatchesOk_ok n, spec_l11Letter_ok n, spec_CheckDigit_ok n, spec_BoxName_ok n, spec_BoxOk_ok n, spec_l12At_ok n, spec_l12Stack_ok n, spec_StackOk_ok n, spec_l12Cold_ok n, spec_l11Spot_ok n, spec_l3Size_ok n, spec_l1Least_ok n, spec_Apart_ok n, spec_KeepsApart_ok n, spec_l12Fails_ok n, spec_StowCode_ok n, spec_l12Over_ok n, spec_l12Seek_ok n, spec_Fewest_ok n, impl_in_ok n, impl_HatchesOk_1_ok n, sIndex_HatchesOk_1_ok n, sContains_HatchesOk_1_ok n, impl_HatchesOk_ok n, impl_valueOf_ok n, impl_CheckDigit_ok n, impl_BoxName_ok n, impl_portOk_ok n, impl_BoxOk_ok n, impl_Fewest_1_ok n, sIndex_Fewest_1_ok n, sContains_Fewest_1_ok n, impl_StowCode_1_ok n, impl_StowCode_2_1_ok n, sIndex_StowCode_2_1_ok n, sContains_StowCode_2_1_ok n, impl_StowCode_2_ok n, impl_StowCode_3_ok n, impl_StowCode_4_1_ok n, sIndex_StowCode_4_1_ok n, sContains_StowCode_4_1_ok n, impl_StowCode_4_ok n, cmp_isNaN_int_ok n, cmp_Compare_int_ok n, impl_stackOf_1_ok n, sSort_stackOf_1_ok n, impl_stackOf_ok n, impl_StackOk_ok n, impl_StowCode_5_ok n, impl_StowCode_6_ok n, impl_spotOk_ok n, impl_size_ok n, impl_Apart_ok n, impl_KeepsApart_ok n, impl_StowCode_7_1_ok n, sIndex_StowCode_7_1_ok n, sContains_StowCode_7_1_ok n, impl_StowCode_7_ok n, impl_StowCode_ok n, impl_over_ok n, impl_overstows_ok n, impl_own_impl_Stow_ok n, impl_Fewest_2_1_ok n, sIndex_Fewest_2_1_ok n, sContains_Fewest_2_1_ok n, impl_Fewest_2__self_ok n, impl_Fewest_ok n, laws_eqBox_ok n, laws_eqSpot_ok n, laws_eqStow_ok n, laws_eqStowS_ok n, laws_eqHatch_ok n, laws_eqHatchS_ok n, laws_eqBoxS_ok n, laws_markHatchS_ok n, laws_markText_ok n, laws_markBoxS_ok n, laws_markStowS_ok n, laws_heldStowS_ok n, laws_FnExactFewest_ok n, trivial⟩
theorem sem (n i : Nat) : SemOk (Phi n i) (CallOk Try.prog T) := phiE_ok (entsOk n) i
end Go.Sm.F4
