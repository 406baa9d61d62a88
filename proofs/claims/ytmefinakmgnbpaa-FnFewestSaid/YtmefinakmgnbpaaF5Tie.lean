import Derived.Test.YtmefinakmgnbpaaF5Tb
import Derived.Test.YtmefinakmgnbpaaEngD
import Derived.Test.YtmefinakmgnbpaaEngE
import Derived.Test.YtmefinakmgnbpaaLay
import Derived.KernelRfl
import Derived.Test.YtmefinakmgnbpaaF5TieA
/- Each function's code computes what the plain function computes. -/
set_option linter.unusedSimpArgs false
set_option linter.deprecated false
set_option linter.unusedSectionVars false
set_option linter.unusedVariables false
set_option maxRecDepth 100000
open Go Go.Proofs
noncomputable section
namespace Go.Sm.F5
theorem sContains_StowCode_2_1_ok (n : Nat) : EntOk Try.prog (ents n) (sContains_StowCode_2_1_ent n) := by
  intro hs ar y hg h
  replace h : sContains_StowCode_2_1_D n ar = some y := h
  unfold sContains_StowCode_2_1_D at h
  split at h
  · obtain ⟨s0, qh0, h⟩ := obind_some h
    obtain ⟨f1c0, qh1, h⟩ := obind_some h
    rw [argV_eq ok qh0, argP_eq qh1] at hg ⊢
    cases (show [_] = [67] from natsEq_eq hg)
    exact call_of (phiE_nat _ _) hs ok mixed Try.func56 (c := sContains_StowCode_2_1_code) (by kernel_rfl) (sContains_StowCode_2_1_lo n) (by kernel_rfl) (by kernel_rfl) (by kernel_rfl) sContains_StowCode_2_1_de ((sContains_StowCode_2_1_tie n s0 f1c0).trans h)
  · cases h
noncomputable def impl_StowCode_2_code : Code := match Try.f66.body with | some c => c | none => .skip
def impl_StowCode_2_ann : Ann := fun id => none
def impl_StowCode_2_Ls (n : Nat) : Nat → Option (LSpec T) := fun id => none
theorem impl_StowCode_2_tie (n : Nat) (i0 : Int) (s1 : SStow) (a2 : List SStow) : evF (T := T) (Phi n 33) (impl_StowCode_2_Ls n) impl_StowCode_2_ann n Try.f66 (sg 66) [vA T 3 i0, vA T 67 s1, .ptr 44 a2] impl_StowCode_2_dec = impl_StowCode_2 n i0 s1 a2 := by kernel_rfl
theorem impl_StowCode_2_lo (n : Nat) : LoopsOk (T := T) (Phi n 33) (impl_StowCode_2_Ls n) impl_StowCode_2_ann n impl_StowCode_2_code := loopsOk_all (cs := []) (by kernel_rfl) trivial
theorem impl_StowCode_2_ok (n : Nat) : EntOk Try.prog (ents n) (impl_StowCode_2_ent n) := by
  intro hs ar y hg h
  replace h : impl_StowCode_2_D n ar = some y := h
  unfold impl_StowCode_2_D at h
  replace h := ocons_some h
  obtain ⟨a0, r0, rfl, h⟩ := h
  replace h := ocons_some h
  obtain ⟨a1, r1, rfl, h⟩ := h
  replace h := ocons_some h
  obtain ⟨a2, r2, rfl, h⟩ := h
  replace h := onil_some h
  obtain ⟨rfl, h⟩ := h
  obtain ⟨i0, qh0, h⟩ := obind_some h
  obtain ⟨s1, qh1, h⟩ := obind_some h
  obtain ⟨a2, qh2, h⟩ := obind_some h
  rw [argV_eq ok qh0, argV_eq ok qh1, argP_eq qh2]
  exact call_of (phiE_nat _ _) hs ok mixed Try.func66 (c := impl_StowCode_2_code) (by kernel_rfl) (impl_StowCode_2_lo n) (by kernel_rfl) (by kernel_rfl) (by kernel_rfl) impl_StowCode_2_de ((impl_StowCode_2_tie n i0 s1 a2).trans h)
noncomputable def impl_StowCode_3_code : Code := match Try.f68.body with | some c => c | none => .skip
def impl_StowCode_3_ann : Ann := fun id => none
def impl_StowCode_3_Ls (n : Nat) : Nat → Option (LSpec T) := fun id => none
theorem impl_StowCode_3_tie (n : Nat) (_0 : Int) (s1 : SStow) (a2 : List SHatch) : evF (T := T) (Phi n 34) (impl_StowCode_3_Ls n) impl_StowCode_3_ann n Try.f68 (sg 68) [vA T 3 _0, vA T 67 s1, .ptr 47 a2] impl_StowCode_3_dec = impl_StowCode_3 n _0 s1 a2 := by kernel_rfl
theorem impl_StowCode_3_lo (n : Nat) : LoopsOk (T := T) (Phi n 34) (impl_StowCode_3_Ls n) impl_StowCode_3_ann n impl_StowCode_3_code := loopsOk_all (cs := []) (by kernel_rfl) trivial
theorem impl_StowCode_3_ok (n : Nat) : EntOk Try.prog (ents n) (impl_StowCode_3_ent n) := by
  intro hs ar y hg h
  replace h : impl_StowCode_3_D n ar = some y := h
  unfold impl_StowCode_3_D at h
  replace h := ocons_some h
  obtain ⟨a0, r0, rfl, h⟩ := h
  replace h := ocons_some h
  obtain ⟨a1, r1, rfl, h⟩ := h
  replace h := ocons_some h
  obtain ⟨a2, r2, rfl, h⟩ := h
  replace h := onil_some h
  obtain ⟨rfl, h⟩ := h
  obtain ⟨_0, qh0, h⟩ := obind_some h
  obtain ⟨s1, qh1, h⟩ := obind_some h
  obtain ⟨a2, qh2, h⟩ := obind_some h
  rw [argV_eq ok qh0, argV_eq ok qh1, argP_eq qh2]
  exact call_of (phiE_nat _ _) hs ok mixed Try.func68 (c := impl_StowCode_3_code) (by kernel_rfl) (impl_StowCode_3_lo n) (by kernel_rfl) (by kernel_rfl) (by kernel_rfl) impl_StowCode_3_de ((impl_StowCode_3_tie n _0 s1 a2).trans h)
noncomputable def impl_StowCode_4_1_code : Code := match Try.f71.body with | some c => c | none => .skip
def impl_StowCode_4_1_ann : Ann := fun id => none
def impl_StowCode_4_1_Ls (n : Nat) : Nat → Option (LSpec T) := fun id => none
theorem impl_StowCode_4_1_tie (n : Nat) (x0 : SStow) (a1 : SSpot) : evF (T := T) (Phi n 35) (impl_StowCode_4_1_Ls n) impl_StowCode_4_1_ann n Try.f71 (sg 71) [vA T 67 x0, .ptr 65 a1] impl_StowCode_4_1_dec = impl_StowCode_4_1 n x0 a1 := by kernel_rfl
theorem impl_StowCode_4_1_lo (n : Nat) : LoopsOk (T := T) (Phi n 35) (impl_StowCode_4_1_Ls n) impl_StowCode_4_1_ann n impl_StowCode_4_1_code := loopsOk_all (cs := []) (by kernel_rfl) trivial
theorem impl_StowCode_4_1_ok (n : Nat) : EntOk Try.prog (ents n) (impl_StowCode_4_1_ent n) := by
  intro hs ar y hg h
  replace h : impl_StowCode_4_1_D n ar = some y := h
  unfold impl_StowCode_4_1_D at h
  replace h := ocons_some h
  obtain ⟨a0, r0, rfl, h⟩ := h
  replace h := ocons_some h
  obtain ⟨a1, r1, rfl, h⟩ := h
  replace h := onil_some h
  obtain ⟨rfl, h⟩ := h
  obtain ⟨x0, qh0, h⟩ := obind_some h
  obtain ⟨a1, qh1, h⟩ := obind_some h
  rw [argV_eq ok qh0, argP_eq qh1]
  exact call_of (phiE_nat _ _) hs ok mixed Try.func71 (c := impl_StowCode_4_1_code) (by kernel_rfl) (impl_StowCode_4_1_lo n) (by kernel_rfl) (by kernel_rfl) (by kernel_rfl) impl_StowCode_4_1_de ((impl_StowCode_4_1_tie n x0 a1).trans h)
noncomputable def sIndex_StowCode_4_1_code : Code := match Try.f104.body with | some c => c | none => .skip
def sIndex_StowCode_4_1_2_sv : List Sv := [.one (.arr 67), .one (.fnr 71 [65]), .one (.int .i64), .one (.int .i64)]
def sIndex_StowCode_4_1_2_so : List So := []
def sIndex_StowCode_4_1_2_emb (c : List SStow × SSpot × Int) (x : Int) : EVs T sIndex_StowCode_4_1_2_sv × EOs T sIndex_StowCode_4_1_2_so := ((c.1, (c.2.1, ()), c.2.2, x, ()), ())
def sIndex_StowCode_4_1_2_prj (y : EVs T sIndex_StowCode_4_1_2_sv × EOs T sIndex_StowCode_4_1_2_so) : (List SStow × SSpot × Int) × Int := ((y.1.1, y.1.2.1.1, y.1.2.2.1), (y.1.2.2.2.1))
def sIndex_StowCode_4_1_2_b (n : Nat) {R : Type} (K : Ex → Sm.St T → Option R) (c : List SStow × SSpot × Int) (x : Int) (J : Int → Option R) : Option R :=
  sIndex_StowCode_4_1_L2 n (K (.exit 0) (stOf (T := T) [] [] [] [] () ())) (fun (y0 : Int) => K .ret (stOf (T := T) [4] [] [.one (.int .i64)] [] (y0, ()) ())) J c.1 c.2.1 c.2.2 x
def sIndex_StowCode_4_1_2_sp (n : Nat) : LSpec T := mkSpec T ⟨[], [0, 1, 7, 8], []⟩ sIndex_StowCode_4_1_2_sv sIndex_StowCode_4_1_2_so (List SStow × SSpot × Int) (Int) sIndex_StowCode_4_1_2_emb sIndex_StowCode_4_1_2_prj (sIndex_StowCode_4_1_2_b n)
noncomputable def sIndex_StowCode_4_1_2_c : Code := ((loopCodes sIndex_StowCode_4_1_code)[0]?).getD .skip
def sIndex_StowCode_4_1_ann : Ann := fun id => bif Nat.beq id 3000002 then some ⟨[], [], []⟩ else bif Nat.beq id 2000002 then some ⟨[], [4], []⟩ else none
def sIndex_StowCode_4_1_Ls (n : Nat) : Nat → Option (LSpec T) := fun id => bif Nat.beq id 2 then some (sIndex_StowCode_4_1_2_sp n) else none
theorem sIndex_StowCode_4_1_2_le (n : Nat) : LoopEq (T := T) (Phi n 36) (sIndex_StowCode_4_1_Ls n) sIndex_StowCode_4_1_ann n sIndex_StowCode_4_1_2_c (sIndex_StowCode_4_1_2_sp n) := ⟨mkSpec_dec (fun y => rfl), fun c x => by kernel_rfl, fun K J c x => by kernel_rfl⟩
theorem sIndex_StowCode_4_1_tie (n : Nat) (s0 : List SStow) (f1c0 : SSpot) : evF (T := T) (Phi n 36) (sIndex_StowCode_4_1_Ls n) sIndex_StowCode_4_1_ann n Try.f104 (sg 104) [vA T 44 s0, .fn 71 [.ptr 65 f1c0]] sIndex_StowCode_4_1_dec = sIndex_StowCode_4_1 n s0 f1c0 := by kernel_rfl
theorem sIndex_StowCode_4_1_lo (n : Nat) : LoopsOk (T := T) (Phi n 36) (sIndex_StowCode_4_1_Ls n) sIndex_StowCode_4_1_ann n sIndex_StowCode_4_1_code := loopsOk_all (cs := [sIndex_StowCode_4_1_2_c]) (by kernel_rfl) ⟨⟨_, by kernel_rfl, sIndex_StowCode_4_1_2_le n⟩, trivial⟩
theorem sIndex_StowCode_4_1_ok (n : Nat) : EntOk Try.prog (ents n) (sIndex_StowCode_4_1_ent n) := by
  intro hs ar y hg h
  replace h : sIndex_StowCode_4_1_D n ar = some y := h
  unfold sIndex_StowCode_4_1_D at h
  split at h
  · obtain ⟨s0, qh0, h⟩ := obind_some h
    obtain ⟨f1c0, qh1, h⟩ := obind_some h
    rw [argV_eq ok qh0, argP_eq qh1] at hg ⊢
    cases (show [_] = [71] from natsEq_eq hg)
    exact call_of (phiE_nat _ _) hs ok mixed Try.func104 (c := sIndex_StowCode_4_1_code) (by kernel_rfl) (sIndex_StowCode_4_1_lo n) (by kernel_rfl) (by kernel_rfl) (by kernel_rfl) sIndex_StowCode_4_1_de ((sIndex_StowCode_4_1_tie n s0 f1c0).trans h)
  · cases h
noncomputable def sContains_StowCode_4_1_code : Code := match Try.f56.body with | some c => c | none => .skip
def sContains_StowCode_4_1_ann : Ann := fun id => none
def sContains_StowCode_4_1_Ls (n : Nat) : Nat → Option (LSpec T) := fun id => none
theorem sContains_StowCode_4_1_tie (n : Nat) (s0 : List SStow) (f1c0 : SSpot) : evF (T := T) (Phi n 37) (sContains_StowCode_4_1_Ls n) sContains_StowCode_4_1_ann n Try.f56 (sg 56) [vA T 44 s0, .fn 71 [.ptr 65 f1c0]] sContains_StowCode_4_1_dec = sContains_StowCode_4_1 n s0 f1c0 := by kernel_rfl
theorem sContains_StowCode_4_1_lo (n : Nat) : LoopsOk (T := T) (Phi n 37) (sContains_StowCode_4_1_Ls n) sContains_StowCode_4_1_ann n sContains_StowCode_4_1_code := loopsOk_all (cs := []) (by kernel_rfl) trivial
theorem sContains_StowCode_4_1_ok (n : Nat) : EntOk Try.prog (ents n) (sContains_StowCode_4_1_ent n) := by
  intro hs ar y hg h
  replace h : sContains_StowCode_4_1_D n ar = some y := h
  unfold sContains_StowCode_4_1_D at h
  split at h
  · obtain ⟨s0, qh0, h⟩ := obind_some h
    obtain ⟨f1c0, qh1, h⟩ := obind_some h
    rw [argV_eq ok qh0, argP_eq qh1] at hg ⊢
    cases (show [_] = [71] from natsEq_eq hg)
    exact call_of (phiE_nat _ _) hs ok mixed Try.func56 (c := sContains_StowCode_4_1_code) (by kernel_rfl) (sContains_StowCode_4_1_lo n) (by kernel_rfl) (by kernel_rfl) (by kernel_rfl) sContains_StowCode_4_1_de ((sContains_StowCode_4_1_tie n s0 f1c0).trans h)
  · cases h
noncomputable def impl_StowCode_4_code : Code := match Try.f70.body with | some c => c | none => .skip
def impl_StowCode_4_ann : Ann := fun id => none
def impl_StowCode_4_Ls (n : Nat) : Nat → Option (LSpec T) := fun id => none
theorem impl_StowCode_4_tie (n : Nat) (_0 : Int) (s1 : SStow) (a2 : List SStow) : evF (T := T) (Phi n 38) (impl_StowCode_4_Ls n) impl_StowCode_4_ann n Try.f70 (sg 70) [vA T 3 _0, vA T 67 s1, .ptr 44 a2] impl_StowCode_4_dec = impl_StowCode_4 n _0 s1 a2 := by kernel_rfl
theorem impl_StowCode_4_lo (n : Nat) : LoopsOk (T := T) (Phi n 38) (impl_StowCode_4_Ls n) impl_StowCode_4_ann n impl_StowCode_4_code := loopsOk_all (cs := []) (by kernel_rfl) trivial
theorem impl_StowCode_4_ok (n : Nat) : EntOk Try.prog (ents n) (impl_StowCode_4_ent n) := by
  intro hs ar y hg h
  replace h : impl_StowCode_4_D n ar = some y := h
  unfold impl_StowCode_4_D at h
  replace h := ocons_some h
  obtain ⟨a0, r0, rfl, h⟩ := h
  replace h := ocons_some h
  obtain ⟨a1, r1, rfl, h⟩ := h
  replace h := ocons_some h
  obtain ⟨a2, r2, rfl, h⟩ := h
  replace h := onil_some h
  obtain ⟨rfl, h⟩ := h
  obtain ⟨_0, qh0, h⟩ := obind_some h
  obtain ⟨s1, qh1, h⟩ := obind_some h
  obtain ⟨a2, qh2, h⟩ := obind_some h
  rw [argV_eq ok qh0, argV_eq ok qh1, argP_eq qh2]
  exact call_of (phiE_nat _ _) hs ok mixed Try.func70 (c := impl_StowCode_4_code) (by kernel_rfl) (impl_StowCode_4_lo n) (by kernel_rfl) (by kernel_rfl) (by kernel_rfl) impl_StowCode_4_de ((impl_StowCode_4_tie n _0 s1 a2).trans h)
noncomputable def cmp_isNaN_int_code : Code := match Try.f122.body with | some c => c | none => .skip
def cmp_isNaN_int_ann : Ann := fun id => none
def cmp_isNaN_int_Ls (n : Nat) : Nat → Option (LSpec T) := fun id => none
theorem cmp_isNaN_int_tie (n : Nat) (x0 : Int) : evF (T := T) (Phi n 39) (cmp_isNaN_int_Ls n) cmp_isNaN_int_ann n Try.f122 (sg 122) [vA T 3 x0] cmp_isNaN_int_dec = cmp_isNaN_int n x0 := by kernel_rfl
theorem cmp_isNaN_int_lo (n : Nat) : LoopsOk (T := T) (Phi n 39) (cmp_isNaN_int_Ls n) cmp_isNaN_int_ann n cmp_isNaN_int_code := loopsOk_all (cs := []) (by kernel_rfl) trivial
theorem cmp_isNaN_int_ok (n : Nat) : EntOk Try.prog (ents n) (cmp_isNaN_int_ent n) := by
  intro hs ar y hg h
  replace h : cmp_isNaN_int_D n ar = some y := h
  unfold cmp_isNaN_int_D at h
  replace h := ocons_some h
  obtain ⟨a0, r0, rfl, h⟩ := h
  replace h := onil_some h
  obtain ⟨rfl, h⟩ := h
  obtain ⟨x0, qh0, h⟩ := obind_some h
  rw [argV_eq ok qh0]
  exact call_of (phiE_nat _ _) hs ok mixed Try.func122 (c := cmp_isNaN_int_code) (by kernel_rfl) (cmp_isNaN_int_lo n) (by kernel_rfl) (by kernel_rfl) (by kernel_rfl) cmp_isNaN_int_de ((cmp_isNaN_int_tie n x0).trans h)
noncomputable def cmp_Compare_int_code : Code := match Try.f110.body with | some c => c | none => .skip
def cmp_Compare_int_ann : Ann := fun id => none
def cmp_Compare_int_Ls (n : Nat) : Nat → Option (LSpec T) := fun id => none
theorem cmp_Compare_int_tie (n : Nat) (x0 : Int) (y1 : Int) : evF (T := T) (Phi n 40) (cmp_Compare_int_Ls n) cmp_Compare_int_ann n Try.f110 (sg 110) [vA T 3 x0, vA T 3 y1] cmp_Compare_int_dec = cmp_Compare_int n x0 y1 := by kernel_rfl
theorem cmp_Compare_int_lo (n : Nat) : LoopsOk (T := T) (Phi n 40) (cmp_Compare_int_Ls n) cmp_Compare_int_ann n cmp_Compare_int_code := loopsOk_all (cs := []) (by kernel_rfl) trivial
theorem cmp_Compare_int_ok (n : Nat) : EntOk Try.prog (ents n) (cmp_Compare_int_ent n) := by
  intro hs ar y hg h
  replace h : cmp_Compare_int_D n ar = some y := h
  unfold cmp_Compare_int_D at h
  replace h := ocons_some h
  obtain ⟨a0, r0, rfl, h⟩ := h
  replace h := ocons_some h
  obtain ⟨a1, r1, rfl, h⟩ := h
  replace h := onil_some h
  obtain ⟨rfl, h⟩ := h
  obtain ⟨x0, qh0, h⟩ := obind_some h
  obtain ⟨y1, qh1, h⟩ := obind_some h
  rw [argV_eq ok qh0, argV_eq ok qh1]
  exact call_of (phiE_nat _ _) hs ok mixed Try.func110 (c := cmp_Compare_int_code) (by kernel_rfl) (cmp_Compare_int_lo n) (by kernel_rfl) (by kernel_rfl) (by kernel_rfl) cmp_Compare_int_de ((cmp_Compare_int_tie n x0 y1).trans h)
noncomputable def impl_stackOf_1_code : Code := match Try.f109.body with | some c => c | none => .skip
def impl_stackOf_1_ann : Ann := fun id => none
def impl_stackOf_1_Ls (n : Nat) : Nat → Option (LSpec T) := fun id => none
theorem impl_stackOf_1_tie (n : Nat) (a0 : SStow) (b1 : SStow) : evF (T := T) (Phi n 41) (impl_stackOf_1_Ls n) impl_stackOf_1_ann n Try.f109 (sg 109) [vA T 67 a0, vA T 67 b1] impl_stackOf_1_dec = impl_stackOf_1 n a0 b1 := by kernel_rfl
theorem impl_stackOf_1_lo (n : Nat) : LoopsOk (T := T) (Phi n 41) (impl_stackOf_1_Ls n) impl_stackOf_1_ann n impl_stackOf_1_code := loopsOk_all (cs := []) (by kernel_rfl) trivial
theorem impl_stackOf_1_ok (n : Nat) : EntOk Try.prog (ents n) (impl_stackOf_1_ent n) := by
  intro hs ar y hg h
  replace h : impl_stackOf_1_D n ar = some y := h
  unfold impl_stackOf_1_D at h
  replace h := ocons_some h
  obtain ⟨a0, r0, rfl, h⟩ := h
  replace h := ocons_some h
  obtain ⟨a1, r1, rfl, h⟩ := h
  replace h := onil_some h
  obtain ⟨rfl, h⟩ := h
  obtain ⟨a0, qh0, h⟩ := obind_some h
  obtain ⟨b1, qh1, h⟩ := obind_some h
  rw [argV_eq ok qh0, argV_eq ok qh1]
  exact call_of (phiE_nat _ _) hs ok mixed Try.func109 (c := impl_stackOf_1_code) (by kernel_rfl) (impl_stackOf_1_lo n) (by kernel_rfl) (by kernel_rfl) (by kernel_rfl) impl_stackOf_1_de ((impl_stackOf_1_tie n a0 b1).trans h)
theorem sSort_stackOf_1_cl (n : Nat) (x y : U 67) : PhiE (T := T) (ents n) 42 109 [vA T 67 x, vA T 67 y] some = (impl_stackOf_1 n x y).bind fun r => some (impl_stackOf_1_enc r) := by kernel_rfl
theorem sSort_stackOf_1_ok (n : Nat) : EntOk Try.prog (ents n) (sSort_stackOf_1_ent n) := by
  intro hs ar y hg h
  replace h : sSort_stackOf_1_D n ar = some y := h
  unfold sSort_stackOf_1_D at h
  split at h
  · obtain ⟨l0, qh0, h⟩ := obind_some h
    rw [argV_eq ok qh0] at hg ⊢
    cases (show [_] = [109] from natsEq_eq hg)
    refine sortL_call ok lay108 (e := 67) (g := 109) (caps := []) (by kernel_rfl) (by kernel_rfl) (by decide) (by kernel_rfl) (by kernel_rfl) (by kernel_rfl) (by kernel_rfl) (fun x y c hc => ?_) h
    have h1 : PhiE (T := T) (ents n) 42 109 [vA T 67 x, vA T 67 y] some = some (impl_stackOf_1_enc c) := (sSort_stackOf_1_cl n x y).trans (by rw [show impl_stackOf_1 n x y = some c from hc]; rfl)
    obtain ⟨res, h2, h3⟩ := hs _ _ _ _ h1
    cases h3
    exact h2
  · cases h
noncomputable def impl_stackOf_code : Code := match Try.f74.body with | some c => c | none => .skip
def impl_stackOf_3_sv : List Sv := [.one (.int .i64), .one (.int .i64), .one (.own 3000000 67 false), .one (.arr 67), .one (.int .i64), .one (.int .i64)]
def impl_stackOf_3_so : List So := [.arr 67 false]
def impl_stackOf_3_emb (c : Int × Int × List SStow × Int) (x : Int × List SStow) : EVs T impl_stackOf_3_sv × EOs T impl_stackOf_3_so := ((c.1, c.2.1, (), c.2.2.1, c.2.2.2, x.1, ()), (x.2, ()))
def impl_stackOf_3_prj (y : EVs T impl_stackOf_3_sv × EOs T impl_stackOf_3_so) : (Int × Int × List SStow × Int) × (Int × List SStow) := ((y.1.1, y.1.2.1, y.1.2.2.2.1, y.1.2.2.2.2.1), (y.1.2.2.2.2.2.1, y.2.1))
def impl_stackOf_3_b (n : Nat) {R : Type} (K : Ex → Sm.St T → Option R) (c : Int × Int × List SStow × Int) (x : Int × List SStow) (J : (Int × List SStow) → Option R) : Option R :=
  impl_stackOf_L3 n (fun (y0 : List SStow) => K (.exit 0) (stOf (T := T) [7] [3000000] [.one (.own 3000000 67 false)] [.arr 67 false] ((), ()) (y0, ()))) (fun z0 z1 => J (z0, z1)) c.1 c.2.1 c.2.2.1 c.2.2.2 x.1 x.2
def impl_stackOf_3_sp (n : Nat) : LSpec T := mkSpec T ⟨[((.reg 7), 3000000, 67)], [1, 2, 7, 13, 14, 15], [3000000]⟩ impl_stackOf_3_sv impl_stackOf_3_so (Int × Int × List SStow × Int) (Int × List SStow) impl_stackOf_3_emb impl_stackOf_3_prj (impl_stackOf_3_b n)
noncomputable def impl_stackOf_3_c : Code := ((loopCodes impl_stackOf_code)[0]?).getD .skip
def impl_stackOf_11_sv : List Sv := [.one (.own 3000001 63 false), .one (.own 3000002 67 false), .one (.int .i64), .one (.int .i64)]
def impl_stackOf_11_so : List So := [.arr 63 false, .arr 67 false]
def impl_stackOf_11_emb (c : Int × List SStow) (x : Int × List SBox) : EVs T impl_stackOf_11_sv × EOs T impl_stackOf_11_so := (((), (), c.1, x.1, ()), (x.2, c.2, ()))
def impl_stackOf_11_prj (y : EVs T impl_stackOf_11_sv × EOs T impl_stackOf_11_so) : (Int × List SStow) × (Int × List SBox) := ((y.1.2.2.1, y.2.2.1), (y.1.2.2.2.1, y.2.1))
def impl_stackOf_11_b (n : Nat) {R : Type} (K : Ex → Sm.St T → Option R) (c : Int × List SStow) (x : Int × List SBox) (J : (Int × List SBox) → Option R) : Option R :=
  impl_stackOf_L11 n (fun (y0 : List SBox) => K (.exit 2) (stOf (T := T) [10] [3000001] [.one (.own 3000001 63 false)] [.arr 63 false] ((), ()) (y0, ()))) (fun z0 z1 => J (z0, z1)) c.1 x.1 x.2 c.2
def impl_stackOf_11_sp (n : Nat) : LSpec T := mkSpec T ⟨[((.reg 10), 3000001, 63), ((.reg 38), 3000002, 67)], [10, 38, 39, 40], [3000001, 3000002]⟩ impl_stackOf_11_sv impl_stackOf_11_so (Int × List SStow) (Int × List SBox) impl_stackOf_11_emb impl_stackOf_11_prj (impl_stackOf_11_b n)
noncomputable def impl_stackOf_11_c : Code := ((loopCodes impl_stackOf_code)[1]?).getD .skip
def impl_stackOf_ann : Ann := fun id => bif Nat.beq id 3000003 then some ⟨[((.reg 7), 3000000, 67)], [7], [3000000]⟩ else bif Nat.beq id 5000011 then some ⟨[((.reg 10), 3000001, 63)], [10], [3000001]⟩ else none
def impl_stackOf_Ls (n : Nat) : Nat → Option (LSpec T) := fun id => bif Nat.beq id 3 then some (impl_stackOf_3_sp n) else bif Nat.beq id 11 then some (impl_stackOf_11_sp n) else none
theorem impl_stackOf_3_le (n : Nat) : LoopEq (T := T) (Phi n 43) (impl_stackOf_Ls n) impl_stackOf_ann n impl_stackOf_3_c (impl_stackOf_3_sp n) := ⟨mkSpec_dec (fun y => rfl), fun c x => by kernel_rfl, fun K J c x => by kernel_rfl⟩
theorem impl_stackOf_11_le (n : Nat) : LoopEq (T := T) (Phi n 43) (impl_stackOf_Ls n) impl_stackOf_ann n impl_stackOf_11_c (impl_stackOf_11_sp n) := ⟨mkSpec_dec (fun y => rfl), fun c x => by kernel_rfl, fun K J c x => by kernel_rfl⟩
theorem impl_stackOf_tie (n : Nat) (list0 : List SStow) (bay1 : Int) (row2 : Int) : evF (T := T) (Phi n 43) (impl_stackOf_Ls n) impl_stackOf_ann n Try.f74 (sg 74) [vA T 44 list0, vA T 3 bay1, vA T 3 row2] impl_stackOf_dec = impl_stackOf n list0 bay1 row2 := by kernel_rfl
theorem impl_stackOf_lo (n : Nat) : LoopsOk (T := T) (Phi n 43) (impl_stackOf_Ls n) impl_stackOf_ann n impl_stackOf_code := loopsOk_all (cs := [impl_stackOf_3_c, impl_stackOf_11_c]) (by kernel_rfl) ⟨⟨_, by kernel_rfl, impl_stackOf_3_le n⟩, ⟨_, by kernel_rfl, impl_stackOf_11_le n⟩, trivial⟩
theorem impl_stackOf_ok (n : Nat) : EntOk Try.prog (ents n) (impl_stackOf_ent n) := by
  intro hs ar y hg h
  replace h : impl_stackOf_D n ar = some y := h
  unfold impl_stackOf_D at h
  replace h := ocons_some h
  obtain ⟨a0, r0, rfl, h⟩ := h
  replace h := ocons_some h
  obtain ⟨a1, r1, rfl, h⟩ := h
  replace h := ocons_some h
  obtain ⟨a2, r2, rfl, h⟩ := h
  replace h := onil_some h
  obtain ⟨rfl, h⟩ := h
  obtain ⟨list0, qh0, h⟩ := obind_some h
  obtain ⟨bay1, qh1, h⟩ := obind_some h
  obtain ⟨row2, qh2, h⟩ := obind_some h
  rw [argV_eq ok qh0, argV_eq ok qh1, argV_eq ok qh2]
  exact call_of (phiE_nat _ _) hs ok mixed Try.func74 (c := impl_stackOf_code) (by kernel_rfl) (impl_stackOf_lo n) (by kernel_rfl) (by kernel_rfl) (by kernel_rfl) impl_stackOf_de ((impl_stackOf_tie n list0 bay1 row2).trans h)
noncomputable def impl_StackOk_code : Code := match Try.f73.body with | some c => c | none => .skip
def impl_StackOk_5_sv : List Sv := [.one (.arr 63), .one (.int .i64), .one (.int .i64), .one (.arr 63), .one (.int .i64), .one (.int .i64)]
def impl_StackOk_5_so : List So := []
def impl_StackOk_5_emb (c : List SBox × Int × List SBox × Int) (x : Int × Int) : EVs T impl_StackOk_5_sv × EOs T impl_StackOk_5_so := ((c.1, c.2.1, x.1, c.2.2.1, c.2.2.2, x.2, ()), ())
def impl_StackOk_5_prj (y : EVs T impl_StackOk_5_sv × EOs T impl_StackOk_5_so) : (List SBox × Int × List SBox × Int) × (Int × Int) := ((y.1.1, y.1.2.1, y.1.2.2.2.1, y.1.2.2.2.2.1), (y.1.2.2.1, y.1.2.2.2.2.2.1))
def impl_StackOk_5_b (n : Nat) {R : Type} (K : Ex → Sm.St T → Option R) (c : List SBox × Int × List SBox × Int) (x : Int × Int) (J : (Int × Int) → Option R) : Option R :=
  impl_StackOk_L5 n (fun (y1 : Int) => K (.exit 0) (stOf (T := T) [1, 5] [] [.one (.int .i64), .one (.int .i64)] [] (c.2.1, y1, ()) ())) (fun (y0 : Bool) => K .ret (stOf (T := T) [4] [] [.one (.bool)] [] (y0, ()) ())) (fun z0 z1 => J (z0, z1)) c.1 c.2.1 x.1 c.2.2.1 c.2.2.2 x.2
def impl_StackOk_5_sp (n : Nat) : LSpec T := mkSpec T ⟨[], [0, 1, 5, 16, 17, 18], []⟩ impl_StackOk_5_sv impl_StackOk_5_so (List SBox × Int × List SBox × Int) (Int × Int) impl_StackOk_5_emb impl_StackOk_5_prj (impl_StackOk_5_b n)
noncomputable def impl_StackOk_5_c : Code := ((loopCodes impl_StackOk_code)[0]?).getD .skip
def impl_StackOk_ann : Ann := fun id => bif Nat.beq id 3000005 then some ⟨[], [1, 5], []⟩ else bif Nat.beq id 2000005 then some ⟨[], [4], []⟩ else none
def impl_StackOk_Ls (n : Nat) : Nat → Option (LSpec T) := fun id => bif Nat.beq id 5 then some (impl_StackOk_5_sp n) else none
theorem impl_StackOk_5_le (n : Nat) : LoopEq (T := T) (Phi n 44) (impl_StackOk_Ls n) impl_StackOk_ann n impl_StackOk_5_c (impl_StackOk_5_sp n) := ⟨mkSpec_dec (fun y => rfl), fun c x => by kernel_rfl, fun K J c x => by kernel_rfl⟩
theorem impl_StackOk_tie (n : Nat) (boxes0 : List SBox) (most1 : Int) : evF (T := T) (Phi n 44) (impl_StackOk_Ls n) impl_StackOk_ann n Try.f73 (sg 73) [vA T 49 boxes0, vA T 3 most1] impl_StackOk_dec = impl_StackOk n boxes0 most1 := by kernel_rfl
theorem impl_StackOk_lo (n : Nat) : LoopsOk (T := T) (Phi n 44) (impl_StackOk_Ls n) impl_StackOk_ann n impl_StackOk_code := loopsOk_all (cs := [impl_StackOk_5_c]) (by kernel_rfl) ⟨⟨_, by kernel_rfl, impl_StackOk_5_le n⟩, trivial⟩
theorem impl_StackOk_ok (n : Nat) : EntOk Try.prog (ents n) (impl_StackOk_ent n) := by
  intro hs ar y hg h
  replace h : impl_StackOk_D n ar = some y := h
  unfold impl_StackOk_D at h
  replace h := ocons_some h
  obtain ⟨a0, r0, rfl, h⟩ := h
  replace h := ocons_some h
  obtain ⟨a1, r1, rfl, h⟩ := h
  replace h := onil_some h
  obtain ⟨rfl, h⟩ := h
  obtain ⟨boxes0, qh0, h⟩ := obind_some h
  obtain ⟨most1, qh1, h⟩ := obind_some h
  rw [argV_eq ok qh0, argV_eq ok qh1]
  exact call_of (phiE_nat _ _) hs ok mixed Try.func73 (c := impl_StackOk_code) (by kernel_rfl) (impl_StackOk_lo n) (by kernel_rfl) (by kernel_rfl) (by kernel_rfl) impl_StackOk_de ((impl_StackOk_tie n boxes0 most1).trans h)
noncomputable def impl_StowCode_5_code : Code := match Try.f72.body with | some c => c | none => .skip
def impl_StowCode_5_ann : Ann := fun id => none
def impl_StowCode_5_Ls (n : Nat) : Nat → Option (LSpec T) := fun id => none
theorem impl_StowCode_5_tie (n : Nat) (_0 : Int) (s1 : SStow) (a2 : List SStow) (a3 : List SHatch) : evF (T := T) (Phi n 45) (impl_StowCode_5_Ls n) impl_StowCode_5_ann n Try.f72 (sg 72) [vA T 3 _0, vA T 67 s1, .ptr 44 a2, .ptr 47 a3] impl_StowCode_5_dec = impl_StowCode_5 n _0 s1 a2 a3 := by kernel_rfl
theorem impl_StowCode_5_lo (n : Nat) : LoopsOk (T := T) (Phi n 45) (impl_StowCode_5_Ls n) impl_StowCode_5_ann n impl_StowCode_5_code := loopsOk_all (cs := []) (by kernel_rfl) trivial
theorem impl_StowCode_5_ok (n : Nat) : EntOk Try.prog (ents n) (impl_StowCode_5_ent n) := by
  intro hs ar y hg h
  replace h : impl_StowCode_5_D n ar = some y := h
  unfold impl_StowCode_5_D at h
  replace h := ocons_some h
  obtain ⟨a0, r0, rfl, h⟩ := h
  replace h := ocons_some h
  obtain ⟨a1, r1, rfl, h⟩ := h
  replace h := ocons_some h
  obtain ⟨a2, r2, rfl, h⟩ := h
  replace h := ocons_some h
  obtain ⟨a3, r3, rfl, h⟩ := h
  replace h := onil_some h
  obtain ⟨rfl, h⟩ := h
  obtain ⟨_0, qh0, h⟩ := obind_some h
  obtain ⟨s1, qh1, h⟩ := obind_some h
  obtain ⟨a2, qh2, h⟩ := obind_some h
  obtain ⟨a3, qh3, h⟩ := obind_some h
  rw [argV_eq ok qh0, argV_eq ok qh1, argP_eq qh2, argP_eq qh3]
  exact call_of (phiE_nat _ _) hs ok mixed Try.func72 (c := impl_StowCode_5_code) (by kernel_rfl) (impl_StowCode_5_lo n) (by kernel_rfl) (by kernel_rfl) (by kernel_rfl) impl_StowCode_5_de ((impl_StowCode_5_tie n _0 s1 a2 a3).trans h)
noncomputable def impl_StowCode_6_code : Code := match Try.f75.body with | some c => c | none => .skip
def impl_StowCode_6_3_sv : List Sv := [.one (.rptr 47 0), .one (.ptr 40 0 0), .one (.int .i64), .one (.arr 67), .one (.int .i64), .one (.int .i64)]
def impl_StowCode_6_3_so : List So := [.var [.str, .int .i64, .int .i64, .bool, .int .i64, .int .i64, .int .i64, .int .i64, .int .i64]]
def impl_StowCode_6_3_emb (c : List SHatch × List SStow × Int × SStow) (x : Int × Int) : EVs T impl_StowCode_6_3_sv × EOs T impl_StowCode_6_3_so := ((c.1, (), x.1, c.2.1, c.2.2.1, x.2, ()), ((c.2.2.2.Box.Name, c.2.2.2.Box.Weight, c.2.2.2.Box.Class, c.2.2.2.Box.Cold, c.2.2.2.Box.From, c.2.2.2.Box.To, c.2.2.2.Spot.Bay, c.2.2.2.Spot.Row, c.2.2.2.Spot.Tier, ()), ()))
def impl_StowCode_6_3_prj (y : EVs T impl_StowCode_6_3_sv × EOs T impl_StowCode_6_3_so) : (List SHatch × List SStow × Int × SStow) × (Int × Int) := ((y.1.1, y.1.2.2.2.1, y.1.2.2.2.2.1, ((⟨(⟨y.2.1.1, y.2.1.2.1, y.2.1.2.2.1, y.2.1.2.2.2.1, y.2.1.2.2.2.2.1, y.2.1.2.2.2.2.2.1⟩ : SBox), (⟨y.2.1.2.2.2.2.2.2.1, y.2.1.2.2.2.2.2.2.2.1, y.2.1.2.2.2.2.2.2.2.2.1⟩ : SSpot)⟩ : SStow) : SStow)), (y.1.2.2.1, y.1.2.2.2.2.2.1))
def impl_StowCode_6_3_b (n : Nat) {R : Type} (K : Ex → Sm.St T → Option R) (c : List SHatch × List SStow × Int × SStow) (x : Int × Int) (J : (Int × Int) → Option R) : Option R :=
  impl_StowCode_6_L3 n (fun (y1 : Int) => K (.exit 0) (stOf (T := T) [3, 5, 7] [40] [.one (.rptr 47 0), .one (.ptr 40 0 0), .one (.int .i64)] [.var [.str, .int .i64, .int .i64, .bool, .int .i64, .int .i64, .int .i64, .int .i64, .int .i64]] (c.1, (), y1, ()) ((c.2.2.2.Box.Name, c.2.2.2.Box.Weight, c.2.2.2.Box.Class, c.2.2.2.Box.Cold, c.2.2.2.Box.From, c.2.2.2.Box.To, c.2.2.2.Spot.Bay, c.2.2.2.Spot.Row, c.2.2.2.Spot.Tier, ()), ()))) (fun z0 z1 => J (z0, z1)) c.1 x.1 c.2.1 c.2.2.1 x.2 c.2.2.2
def impl_StowCode_6_3_sp (n : Nat) : LSpec T := mkSpec T ⟨[], [3, 5, 7, 10, 11, 12], [40]⟩ impl_StowCode_6_3_sv impl_StowCode_6_3_so (List SHatch × List SStow × Int × SStow) (Int × Int) impl_StowCode_6_3_emb impl_StowCode_6_3_prj (impl_StowCode_6_3_b n)
noncomputable def impl_StowCode_6_3_c : Code := ((loopCodes impl_StowCode_6_code)[0]?).getD .skip
def impl_StowCode_6_ann : Ann := fun id => bif Nat.beq id 3000003 then some ⟨[], [3, 5, 7], [40]⟩ else none
def impl_StowCode_6_Ls (n : Nat) : Nat → Option (LSpec T) := fun id => bif Nat.beq id 3 then some (impl_StowCode_6_3_sp n) else none
theorem impl_StowCode_6_3_le (n : Nat) : LoopEq (T := T) (Phi n 46) (impl_StowCode_6_Ls n) impl_StowCode_6_ann n impl_StowCode_6_3_c (impl_StowCode_6_3_sp n) := ⟨mkSpec_dec (fun y => rfl), fun c x => by kernel_rfl, fun K J c x => by kernel_rfl⟩
theorem impl_StowCode_6_tie (n : Nat) (_0 : Int) (s1 : SStow) (a2 : List SStow) (a3 : List SHatch) : evF (T := T) (Phi n 46) (impl_StowCode_6_Ls n) impl_StowCode_6_ann n Try.f75 (sg 75) [vA T 3 _0, vA T 67 s1, .ptr 44 a2, .ptr 47 a3] impl_StowCode_6_dec = impl_StowCode_6 n _0 s1 a2 a3 := by kernel_rfl
theorem impl_StowCode_6_lo (n : Nat) : LoopsOk (T := T) (Phi n 46) (impl_StowCode_6_Ls n) impl_StowCode_6_ann n impl_StowCode_6_code := loopsOk_all (cs := [impl_StowCode_6_3_c]) (by kernel_rfl) ⟨⟨_, by kernel_rfl, impl_StowCode_6_3_le n⟩, trivial⟩
theorem impl_StowCode_6_ok (n : Nat) : EntOk Try.prog (ents n) (impl_StowCode_6_ent n) := by
  intro hs ar y hg h
  replace h : impl_StowCode_6_D n ar = some y := h
  unfold impl_StowCode_6_D at h
  replace h := ocons_some h
  obtain ⟨a0, r0, rfl, h⟩ := h
  replace h := ocons_some h
  obtain ⟨a1, r1, rfl, h⟩ := h
  replace h := ocons_some h
  obtain ⟨a2, r2, rfl, h⟩ := h
  replace h := ocons_some h
  obtain ⟨a3, r3, rfl, h⟩ := h
  replace h := onil_some h
  obtain ⟨rfl, h⟩ := h
  obtain ⟨_0, qh0, h⟩ := obind_some h
  obtain ⟨s1, qh1, h⟩ := obind_some h
  obtain ⟨a2, qh2, h⟩ := obind_some h
  obtain ⟨a3, qh3, h⟩ := obind_some h
  rw [argV_eq ok qh0, argV_eq ok qh1, argP_eq qh2, argP_eq qh3]
  exact call_of (phiE_nat _ _) hs ok mixed Try.func75 (c := impl_StowCode_6_code) (by kernel_rfl) (impl_StowCode_6_lo n) (by kernel_rfl) (by kernel_rfl) (by kernel_rfl) impl_StowCode_6_de ((impl_StowCode_6_tie n _0 s1 a2 a3).trans h)
noncomputable def impl_spotOk_code : Code := match Try.f111.body with | some c => c | none => .skip
def impl_spotOk_ann : Ann := fun id => none
def impl_spotOk_Ls (n : Nat) : Nat → Option (LSpec T) := fun id => none
theorem impl_spotOk_tie (n : Nat) (s0 : SSpot) : evF (T := T) (Phi n 47) (impl_spotOk_Ls n) impl_spotOk_ann n Try.f111 (sg 111) [vA T 65 s0] impl_spotOk_dec = impl_spotOk n s0 := by kernel_rfl
theorem impl_spotOk_lo (n : Nat) : LoopsOk (T := T) (Phi n 47) (impl_spotOk_Ls n) impl_spotOk_ann n impl_spotOk_code := loopsOk_all (cs := []) (by kernel_rfl) trivial
theorem impl_spotOk_ok (n : Nat) : EntOk Try.prog (ents n) (impl_spotOk_ent n) := by
  intro hs ar y hg h
  replace h : impl_spotOk_D n ar = some y := h
  unfold impl_spotOk_D at h
  replace h := ocons_some h
  obtain ⟨a0, r0, rfl, h⟩ := h
  replace h := onil_some h
  obtain ⟨rfl, h⟩ := h
  obtain ⟨s0, qh0, h⟩ := obind_some h
  rw [argV_eq ok qh0]
  exact call_of (phiE_nat _ _) hs ok mixed Try.func111 (c := impl_spotOk_code) (by kernel_rfl) (impl_spotOk_lo n) (by kernel_rfl) (by kernel_rfl) (by kernel_rfl) impl_spotOk_de ((impl_spotOk_tie n s0).trans h)
noncomputable def impl_size_code : Code := match Try.f112.body with | some c => c | none => .skip
def impl_size_ann : Ann := fun id => none
def impl_size_Ls (n : Nat) : Nat → Option (LSpec T) := fun id => none
theorem impl_size_tie (n : Nat) (n0 : Int) : evF (T := T) (Phi n 48) (impl_size_Ls n) impl_size_ann n Try.f112 (sg 112) [vA T 3 n0] impl_size_dec = impl_size n n0 := by kernel_rfl
theorem impl_size_lo (n : Nat) : LoopsOk (T := T) (Phi n 48) (impl_size_Ls n) impl_size_ann n impl_size_code := loopsOk_all (cs := []) (by kernel_rfl) trivial
theorem impl_size_ok (n : Nat) : EntOk Try.prog (ents n) (impl_size_ent n) := by
  intro hs ar y hg h
  replace h : impl_size_D n ar = some y := h
  unfold impl_size_D at h
  replace h := ocons_some h
  obtain ⟨a0, r0, rfl, h⟩ := h
  replace h := onil_some h
  obtain ⟨rfl, h⟩ := h
  obtain ⟨n0, qh0, h⟩ := obind_some h
  rw [argV_eq ok qh0]
  exact call_of (phiE_nat _ _) hs ok mixed Try.func112 (c := impl_size_code) (by kernel_rfl) (impl_size_lo n) (by kernel_rfl) (by kernel_rfl) (by kernel_rfl) impl_size_de ((impl_size_tie n n0).trans h)
noncomputable def impl_Apart_code : Code := match Try.f113.body with | some c => c | none => .skip
def impl_Apart_ann : Ann := fun id => none
def impl_Apart_Ls (n : Nat) : Nat → Option (LSpec T) := fun id => none
theorem impl_Apart_tie (n : Nat) (a0 : Int) (b1 : Int) : evF (T := T) (Phi n 49) (impl_Apart_Ls n) impl_Apart_ann n Try.f113 (sg 113) [vA T 3 a0, vA T 3 b1] impl_Apart_dec = impl_Apart n a0 b1 := by kernel_rfl
theorem impl_Apart_lo (n : Nat) : LoopsOk (T := T) (Phi n 49) (impl_Apart_Ls n) impl_Apart_ann n impl_Apart_code := loopsOk_all (cs := []) (by kernel_rfl) trivial
theorem impl_Apart_ok (n : Nat) : EntOk Try.prog (ents n) (impl_Apart_ent n) := by
  intro hs ar y hg h
  replace h : impl_Apart_D n ar = some y := h
  unfold impl_Apart_D at h
  replace h := ocons_some h
  obtain ⟨a0, r0, rfl, h⟩ := h
  replace h := ocons_some h
  obtain ⟨a1, r1, rfl, h⟩ := h
  replace h := onil_some h
  obtain ⟨rfl, h⟩ := h
  obtain ⟨a0, qh0, h⟩ := obind_some h
  obtain ⟨b1, qh1, h⟩ := obind_some h
  rw [argV_eq ok qh0, argV_eq ok qh1]
  exact call_of (phiE_nat _ _) hs ok mixed Try.func113 (c := impl_Apart_code) (by kernel_rfl) (impl_Apart_lo n) (by kernel_rfl) (by kernel_rfl) (by kernel_rfl) impl_Apart_de ((impl_Apart_tie n a0 b1).trans h)
noncomputable def impl_KeepsApart_code : Code := match Try.f78.body with | some c => c | none => .skip
def impl_KeepsApart_ann : Ann := fun id => none
def impl_KeepsApart_Ls (n : Nat) : Nat → Option (LSpec T) := fun id => none
theorem impl_KeepsApart_tie (n : Nat) (a0 : SBox) (sa1 : SSpot) (b2 : SBox) (sb3 : SSpot) : evF (T := T) (Phi n 50) (impl_KeepsApart_Ls n) impl_KeepsApart_ann n Try.f78 (sg 78) [vA T 63 a0, vA T 65 sa1, vA T 63 b2, vA T 65 sb3] impl_KeepsApart_dec = impl_KeepsApart n a0 sa1 b2 sb3 := by kernel_rfl
theorem impl_KeepsApart_lo (n : Nat) : LoopsOk (T := T) (Phi n 50) (impl_KeepsApart_Ls n) impl_KeepsApart_ann n impl_KeepsApart_code := loopsOk_all (cs := []) (by kernel_rfl) trivial
theorem impl_KeepsApart_ok (n : Nat) : EntOk Try.prog (ents n) (impl_KeepsApart_ent n) := by
  intro hs ar y hg h
  replace h : impl_KeepsApart_D n ar = some y := h
  unfold impl_KeepsApart_D at h
  replace h := ocons_some h
  obtain ⟨a0, r0, rfl, h⟩ := h
  replace h := ocons_some h
  obtain ⟨a1, r1, rfl, h⟩ := h
  replace h := ocons_some h
  obtain ⟨a2, r2, rfl, h⟩ := h
  replace h := ocons_some h
  obtain ⟨a3, r3, rfl, h⟩ := h
  replace h := onil_some h
  obtain ⟨rfl, h⟩ := h
  obtain ⟨a0, qh0, h⟩ := obind_some h
  obtain ⟨sa1, qh1, h⟩ := obind_some h
  obtain ⟨b2, qh2, h⟩ := obind_some h
  obtain ⟨sb3, qh3, h⟩ := obind_some h
  rw [argV_eq ok qh0, argV_eq ok qh1, argV_eq ok qh2, argV_eq ok qh3]
  exact call_of (phiE_nat _ _) hs ok mixed Try.func78 (c := impl_KeepsApart_code) (by kernel_rfl) (impl_KeepsApart_lo n) (by kernel_rfl) (by kernel_rfl) (by kernel_rfl) impl_KeepsApart_de ((impl_KeepsApart_tie n a0 sa1 b2 sb3).trans h)
noncomputable def impl_StowCode_7_1_code : Code := match Try.f77.body with | some c => c | none => .skip
def impl_StowCode_7_1_ann : Ann := fun id => none
def impl_StowCode_7_1_Ls (n : Nat) : Nat → Option (LSpec T) := fun id => none
theorem impl_StowCode_7_1_tie (n : Nat) (x0 : SStow) (a1 : SStow) : evF (T := T) (Phi n 51) (impl_StowCode_7_1_Ls n) impl_StowCode_7_1_ann n Try.f77 (sg 77) [vA T 67 x0, .ptr 67 a1] impl_StowCode_7_1_dec = impl_StowCode_7_1 n x0 a1 := by kernel_rfl
theorem impl_StowCode_7_1_lo (n : Nat) : LoopsOk (T := T) (Phi n 51) (impl_StowCode_7_1_Ls n) impl_StowCode_7_1_ann n impl_StowCode_7_1_code := loopsOk_all (cs := []) (by kernel_rfl) trivial
theorem impl_StowCode_7_1_ok (n : Nat) : EntOk Try.prog (ents n) (impl_StowCode_7_1_ent n) := by
  intro hs ar y hg h
  replace h : impl_StowCode_7_1_D n ar = some y := h
  unfold impl_StowCode_7_1_D at h
  replace h := ocons_some h
  obtain ⟨a0, r0, rfl, h⟩ := h
  replace h := ocons_some h
  obtain ⟨a1, r1, rfl, h⟩ := h
  replace h := onil_some h
  obtain ⟨rfl, h⟩ := h
  obtain ⟨x0, qh0, h⟩ := obind_some h
  obtain ⟨a1, qh1, h⟩ := obind_some h
  rw [argV_eq ok qh0, argP_eq qh1]
  exact call_of (phiE_nat _ _) hs ok mixed Try.func77 (c := impl_StowCode_7_1_code) (by kernel_rfl) (impl_StowCode_7_1_lo n) (by kernel_rfl) (by kernel_rfl) (by kernel_rfl) impl_StowCode_7_1_de ((impl_StowCode_7_1_tie n x0 a1).trans h)
noncomputable def sIndex_StowCode_7_1_code : Code := match Try.f104.body with | some c => c | none => .skip
def sIndex_StowCode_7_1_2_sv : List Sv := [.one (.arr 67), .one (.fnr 77 [67]), .one (.int .i64), .one (.int .i64)]
def sIndex_StowCode_7_1_2_so : List So := []
def sIndex_StowCode_7_1_2_emb (c : List SStow × SStow × Int) (x : Int) : EVs T sIndex_StowCode_7_1_2_sv × EOs T sIndex_StowCode_7_1_2_so := ((c.1, (c.2.1, ()), c.2.2, x, ()), ())
def sIndex_StowCode_7_1_2_prj (y : EVs T sIndex_StowCode_7_1_2_sv × EOs T sIndex_StowCode_7_1_2_so) : (List SStow × SStow × Int) × Int := ((y.1.1, y.1.2.1.1, y.1.2.2.1), (y.1.2.2.2.1))
def sIndex_StowCode_7_1_2_b (n : Nat) {R : Type} (K : Ex → Sm.St T → Option R) (c : List SStow × SStow × Int) (x : Int) (J : Int → Option R) : Option R :=
  sIndex_StowCode_7_1_L2 n (K (.exit 0) (stOf (T := T) [] [] [] [] () ())) (fun (y0 : Int) => K .ret (stOf (T := T) [4] [] [.one (.int .i64)] [] (y0, ()) ())) J c.1 c.2.1 c.2.2 x
def sIndex_StowCode_7_1_2_sp (n : Nat) : LSpec T := mkSpec T ⟨[], [0, 1, 7, 8], []⟩ sIndex_StowCode_7_1_2_sv sIndex_StowCode_7_1_2_so (List SStow × SStow × Int) (Int) sIndex_StowCode_7_1_2_emb sIndex_StowCode_7_1_2_prj (sIndex_StowCode_7_1_2_b n)
noncomputable def sIndex_StowCode_7_1_2_c : Code := ((loopCodes sIndex_StowCode_7_1_code)[0]?).getD .skip
def sIndex_StowCode_7_1_ann : Ann := fun id => bif Nat.beq id 3000002 then some ⟨[], [], []⟩ else bif Nat.beq id 2000002 then some ⟨[], [4], []⟩ else none
def sIndex_StowCode_7_1_Ls (n : Nat) : Nat → Option (LSpec T) := fun id => bif Nat.beq id 2 then some (sIndex_StowCode_7_1_2_sp n) else none
theorem sIndex_StowCode_7_1_2_le (n : Nat) : LoopEq (T := T) (Phi n 52) (sIndex_StowCode_7_1_Ls n) sIndex_StowCode_7_1_ann n sIndex_StowCode_7_1_2_c (sIndex_StowCode_7_1_2_sp n) := ⟨mkSpec_dec (fun y => rfl), fun c x => by kernel_rfl, fun K J c x => by kernel_rfl⟩
theorem sIndex_StowCode_7_1_tie (n : Nat) (s0 : List SStow) (f1c0 : SStow) : evF (T := T) (Phi n 52) (sIndex_StowCode_7_1_Ls n) sIndex_StowCode_7_1_ann n Try.f104 (sg 104) [vA T 44 s0, .fn 77 [.ptr 67 f1c0]] sIndex_StowCode_7_1_dec = sIndex_StowCode_7_1 n s0 f1c0 := by kernel_rfl
theorem sIndex_StowCode_7_1_lo (n : Nat) : LoopsOk (T := T) (Phi n 52) (sIndex_StowCode_7_1_Ls n) sIndex_StowCode_7_1_ann n sIndex_StowCode_7_1_code := loopsOk_all (cs := [sIndex_StowCode_7_1_2_c]) (by kernel_rfl) ⟨⟨_, by kernel_rfl, sIndex_StowCode_7_1_2_le n⟩, trivial⟩
theorem sIndex_StowCode_7_1_ok (n : Nat) : EntOk Try.prog (ents n) (sIndex_StowCode_7_1_ent n) := by
  intro hs ar y hg h
  replace h : sIndex_StowCode_7_1_D n ar = some y := h
  unfold sIndex_StowCode_7_1_D at h
  split at h
  · obtain ⟨s0, qh0, h⟩ := obind_some h
    obtain ⟨f1c0, qh1, h⟩ := obind_some h
    rw [argV_eq ok qh0, argP_eq qh1] at hg ⊢
    cases (show [_] = [77] from natsEq_eq hg)
    exact call_of (phiE_nat _ _) hs ok mixed Try.func104 (c := sIndex_StowCode_7_1_code) (by kernel_rfl) (sIndex_StowCode_7_1_lo n) (by kernel_rfl) (by kernel_rfl) (by kernel_rfl) sIndex_StowCode_7_1_de ((sIndex_StowCode_7_1_tie n s0 f1c0).trans h)
  · cases h
noncomputable def sContains_StowCode_7_1_code : Code := match Try.f56.body with | some c => c | none => .skip
def sContains_StowCode_7_1_ann : Ann := fun id => none
def sContains_StowCode_7_1_Ls (n : Nat) : Nat → Option (LSpec T) := fun id => none
theorem sContains_StowCode_7_1_tie (n : Nat) (s0 : List SStow) (f1c0 : SStow) : evF (T := T) (Phi n 53) (sContains_StowCode_7_1_Ls n) sContains_StowCode_7_1_ann n Try.f56 (sg 56) [vA T 44 s0, .fn 77 [.ptr 67 f1c0]] sContains_StowCode_7_1_dec = sContains_StowCode_7_1 n s0 f1c0 := by kernel_rfl
theorem sContains_StowCode_7_1_lo (n : Nat) : LoopsOk (T := T) (Phi n 53) (sContains_StowCode_7_1_Ls n) sContains_StowCode_7_1_ann n sContains_StowCode_7_1_code := loopsOk_all (cs := []) (by kernel_rfl) trivial
theorem sContains_StowCode_7_1_ok (n : Nat) : EntOk Try.prog (ents n) (sContains_StowCode_7_1_ent n) := by
  intro hs ar y hg h
  replace h : sContains_StowCode_7_1_D n ar = some y := h
  unfold sContains_StowCode_7_1_D at h
  split at h
  · obtain ⟨s0, qh0, h⟩ := obind_some h
    obtain ⟨f1c0, qh1, h⟩ := obind_some h
    rw [argV_eq ok qh0, argP_eq qh1] at hg ⊢
    cases (show [_] = [77] from natsEq_eq hg)
    exact call_of (phiE_nat _ _) hs ok mixed Try.func56 (c := sContains_StowCode_7_1_code) (by kernel_rfl) (sContains_StowCode_7_1_lo n) (by kernel_rfl) (by kernel_rfl) (by kernel_rfl) sContains_StowCode_7_1_de ((sContains_StowCode_7_1_tie n s0 f1c0).trans h)
  · cases h
noncomputable def impl_StowCode_7_code : Code := match Try.f76.body with | some c => c | none => .skip
def impl_StowCode_7_ann : Ann := fun id => none
def impl_StowCode_7_Ls (n : Nat) : Nat → Option (LSpec T) := fun id => none
theorem impl_StowCode_7_tie (n : Nat) (i0 : Int) (s1 : SStow) (a2 : List SStow) : evF (T := T) (Phi n 54) (impl_StowCode_7_Ls n) impl_StowCode_7_ann n Try.f76 (sg 76) [vA T 3 i0, vA T 67 s1, .ptr 44 a2] impl_StowCode_7_dec = impl_StowCode_7 n i0 s1 a2 := by kernel_rfl
theorem impl_StowCode_7_lo (n : Nat) : LoopsOk (T := T) (Phi n 54) (impl_StowCode_7_Ls n) impl_StowCode_7_ann n impl_StowCode_7_code := loopsOk_all (cs := []) (by kernel_rfl) trivial
theorem impl_StowCode_7_ok (n : Nat) : EntOk Try.prog (ents n) (impl_StowCode_7_ent n) := by
  intro hs ar y hg h
  replace h : impl_StowCode_7_D n ar = some y := h
  unfold impl_StowCode_7_D at h
  replace h := ocons_some h
  obtain ⟨a0, r0, rfl, h⟩ := h
  replace h := ocons_some h
  obtain ⟨a1, r1, rfl, h⟩ := h
  replace h := ocons_some h
  obtain ⟨a2, r2, rfl, h⟩ := h
  replace h := onil_some h
  obtain ⟨rfl, h⟩ := h
  obtain ⟨i0, qh0, h⟩ := obind_some h
  obtain ⟨s1, qh1, h⟩ := obind_some h
  obtain ⟨a2, qh2, h⟩ := obind_some h
  rw [argV_eq ok qh0, argV_eq ok qh1, argP_eq qh2]
  exact call_of (phiE_nat _ _) hs ok mixed Try.func76 (c := impl_StowCode_7_code) (by kernel_rfl) (impl_StowCode_7_lo n) (by kernel_rfl) (by kernel_rfl) (by kernel_rfl) impl_StowCode_7_de ((impl_StowCode_7_tie n i0 s1 a2).trans h)
noncomputable def impl_StowCode_code : Code := match Try.f25.body with | some c => c | none => .skip
def impl_StowCode_4_sv : List Sv := [.one (.rptr 44 0), .one (.own 3000000 113 false), .one (.int .i64), .one (.int .i64)]
def impl_StowCode_4_so : List So := [.arrS 113]
def impl_StowCode_4_emb (c : List SStow × Int × List SAnon113) (x : Int) : EVs T impl_StowCode_4_sv × EOs T impl_StowCode_4_so := ((c.1, (), c.2.1, x, ()), (c.2.2, ()))
def impl_StowCode_4_prj (y : EVs T impl_StowCode_4_sv × EOs T impl_StowCode_4_so) : (List SStow × Int × List SAnon113) × Int := ((y.1.1, y.1.2.2.1, y.2.1), (y.1.2.2.2.1))
def impl_StowCode_4_b (n : Nat) {R : Type} (K : Ex → Sm.St T → Option R) (c : List SStow × Int × List SAnon113) (x : Int) (J : Int → Option R) : Option R :=
  impl_StowCode_L4 n (K (.exit 0) (stOf (T := T) [] [] [] [] () ())) (fun (y0 : Int) (y1 : Int) => K .ret (stOf (T := T) [4, 5] [] [.one (.int .i64), .one (.int .i64)] [] (y0, y1, ()) ())) J c.1 c.2.1 x c.2.2
def impl_StowCode_4_sp (n : Nat) : LSpec T := mkSpec T ⟨[((.reg 31), 3000000, 113)], [3, 31, 32, 33], [3000000]⟩ impl_StowCode_4_sv impl_StowCode_4_so (List SStow × Int × List SAnon113) (Int) impl_StowCode_4_emb impl_StowCode_4_prj (impl_StowCode_4_b n)
noncomputable def impl_StowCode_4_c : Code := ((loopCodes impl_StowCode_code)[0]?).getD .skip
def impl_StowCode_7_sv : List Sv := [.one (.rptr 44 0), .one (.ptr 56 0 0), .one (.own 3000000 113 false), .one (.int .i64), .one (.int .i64), .one (.arr 67), .one (.int .i64), .one (.int .i64)]
def impl_StowCode_7_so : List So := [.var [.int .i64, .fnd 112], .arrS 113]
def impl_StowCode_7_emb (c : List SStow × Int × Int × List SStow × Int × SAnon113 × List SAnon113) (x : Int) : EVs T impl_StowCode_7_sv × EOs T impl_StowCode_7_so := ((c.1, (), (), c.2.1, c.2.2.1, c.2.2.2.1, c.2.2.2.2.1, x, ()), ((c.2.2.2.2.2.1.code, c.2.2.2.2.2.1.is, ()), c.2.2.2.2.2.2, ()))
def impl_StowCode_7_prj (y : EVs T impl_StowCode_7_sv × EOs T impl_StowCode_7_so) : (List SStow × Int × Int × List SStow × Int × SAnon113 × List SAnon113) × Int := ((y.1.1, y.1.2.2.2.1, y.1.2.2.2.2.1, y.1.2.2.2.2.2.1, y.1.2.2.2.2.2.2.1, ((⟨y.2.1.1, y.2.1.2.1⟩ : SAnon113) : SAnon113), y.2.2.1), (y.1.2.2.2.2.2.2.2.1))
def impl_StowCode_7_b (n : Nat) {R : Type} (K : Ex → Sm.St T → Option R) (c : List SStow × Int × Int × List SStow × Int × SAnon113 × List SAnon113) (x : Int) (J : Int → Option R) : Option R :=
  impl_StowCode_L7 n (K (.exit 2) (stOf (T := T) [3, 31, 32, 33] [3000000] [.one (.rptr 44 0), .one (.own 3000000 113 false), .one (.int .i64), .one (.int .i64)] [.arrS 113] (c.1, (), c.2.1, c.2.2.1, ()) (c.2.2.2.2.2.2, ()))) (fun (y0 : Int) (y1 : Int) => K .ret (stOf (T := T) [4, 5] [] [.one (.int .i64), .one (.int .i64)] [] (y0, y1, ()) ())) J c.1 c.2.1 c.2.2.1 c.2.2.2.1 c.2.2.2.2.1 x c.2.2.2.2.2.1 c.2.2.2.2.2.2
def impl_StowCode_7_sp (n : Nat) : LSpec T := mkSpec T ⟨[((.reg 31), 3000000, 113)], [3, 7, 31, 32, 33, 37, 38, 39], [56, 3000000]⟩ impl_StowCode_7_sv impl_StowCode_7_so (List SStow × Int × Int × List SStow × Int × SAnon113 × List SAnon113) (Int) impl_StowCode_7_emb impl_StowCode_7_prj (impl_StowCode_7_b n)
noncomputable def impl_StowCode_7_c : Code := ((loopCodes impl_StowCode_code)[1]?).getD .skip
def impl_StowCode_ann : Ann := fun id => bif Nat.beq id 3000004 then some ⟨[], [], []⟩ else bif Nat.beq id 2000004 then some ⟨[], [4, 5], []⟩ else bif Nat.beq id 5000007 then some ⟨[((.reg 31), 3000000, 113)], [3, 31, 32, 33], [3000000]⟩ else bif Nat.beq id 2000007 then some ⟨[], [4, 5], []⟩ else bif Nat.beq id 3 then some ⟨[((.reg 2), 47, 999997), ((.reg 3), 44, 999997)], [2, 3], []⟩ else none
def impl_StowCode_Ls (n : Nat) : Nat → Option (LSpec T) := fun id => bif Nat.beq id 4 then some (impl_StowCode_4_sp n) else bif Nat.beq id 7 then some (impl_StowCode_7_sp n) else none
theorem impl_StowCode_4_le (n : Nat) : LoopEq (T := T) (Phi n 55) (impl_StowCode_Ls n) impl_StowCode_ann n impl_StowCode_4_c (impl_StowCode_4_sp n) := ⟨mkSpec_dec (fun y => rfl), fun c x => by kernel_rfl, fun K J c x => by kernel_rfl⟩
theorem impl_StowCode_7_le (n : Nat) : LoopEq (T := T) (Phi n 55) (impl_StowCode_Ls n) impl_StowCode_ann n impl_StowCode_7_c (impl_StowCode_7_sp n) := ⟨mkSpec_dec (fun y => rfl), fun c x => by kernel_rfl, fun K J c x => by kernel_rfl⟩
theorem impl_StowCode_tie (n : Nat) (bays0 : List SHatch) (list1 : List SStow) : evF (T := T) (Phi n 55) (impl_StowCode_Ls n) impl_StowCode_ann n Try.f25 (sg 25) [vA T 47 bays0, vA T 44 list1] impl_StowCode_dec = impl_StowCode n bays0 list1 := by kernel_rfl
theorem impl_StowCode_lo (n : Nat) : LoopsOk (T := T) (Phi n 55) (impl_StowCode_Ls n) impl_StowCode_ann n impl_StowCode_code := loopsOk_all (cs := [impl_StowCode_4_c, impl_StowCode_7_c]) (by kernel_rfl) ⟨⟨_, by kernel_rfl, impl_StowCode_4_le n⟩, ⟨_, by kernel_rfl, impl_StowCode_7_le n⟩, trivial⟩
theorem impl_StowCode_ok (n : Nat) : EntOk Try.prog (ents n) (impl_StowCode_ent n) := by
  intro hs ar y hg h
  replace h : impl_StowCode_D n ar = some y := h
  unfold impl_StowCode_D at h
  replace h := ocons_some h
  obtain ⟨a0, r0, rfl, h⟩ := h
  replace h := ocons_some h
  obtain ⟨a1, r1, rfl, h⟩ := h
  replace h := onil_some h
  obtain ⟨rfl, h⟩ := h
  obtain ⟨bays0, qh0, h⟩ := obind_some h
  obtain ⟨list1, qh1, h⟩ := obind_some h
  rw [argV_eq ok qh0, argV_eq ok qh1]
  exact call_of (phiE_nat _ _) hs ok mixed Try.func25 (c := impl_StowCode_code) (by kernel_rfl) (impl_StowCode_lo n) (by kernel_rfl) (by kernel_rfl) (by kernel_rfl) impl_StowCode_de ((impl_StowCode_tie n bays0 list1).trans h)
noncomputable def impl_over_code : Code := match Try.f103.body with | some c => c | none => .skip
def impl_over_ann : Ann := fun id => none
def impl_over_Ls (n : Nat) : Nat → Option (LSpec T) := fun id => none
theorem impl_over_tie (n : Nat) (a0 : SSpot) (b1 : SSpot) : evF (T := T) (Phi n 56) (impl_over_Ls n) impl_over_ann n Try.f103 (sg 103) [vA T 65 a0, vA T 65 b1] impl_over_dec = impl_over n a0 b1 := by kernel_rfl
theorem impl_over_lo (n : Nat) : LoopsOk (T := T) (Phi n 56) (impl_over_Ls n) impl_over_ann n impl_over_code := loopsOk_all (cs := []) (by kernel_rfl) trivial
theorem impl_over_ok (n : Nat) : EntOk Try.prog (ents n) (impl_over_ent n) := by
  intro hs ar y hg h
  replace h : impl_over_D n ar = some y := h
  unfold impl_over_D at h
  replace h := ocons_some h
  obtain ⟨a0, r0, rfl, h⟩ := h
  replace h := ocons_some h
  obtain ⟨a1, r1, rfl, h⟩ := h
  replace h := onil_some h
  obtain ⟨rfl, h⟩ := h
  obtain ⟨a0, qh0, h⟩ := obind_some h
  obtain ⟨b1, qh1, h⟩ := obind_some h
  rw [argV_eq ok qh0, argV_eq ok qh1]
  exact call_of (phiE_nat _ _) hs ok mixed Try.func103 (c := impl_over_code) (by kernel_rfl) (impl_over_lo n) (by kernel_rfl) (by kernel_rfl) (by kernel_rfl) impl_over_de ((impl_over_tie n a0 b1).trans h)
noncomputable def impl_overstows_code : Code := match Try.f54.body with | some c => c | none => .skip
def impl_overstows_3_sv : List Sv := [.one (.arr 67), .one (.int .i64), .one (.arr 67), .one (.int .i64), .one (.int .i64)]
def impl_overstows_3_so : List So := []
def impl_overstows_3_emb (c : List SStow × List SStow × Int) (x : Int × Int) : EVs T impl_overstows_3_sv × EOs T impl_overstows_3_so := ((c.1, x.1, c.2.1, c.2.2, x.2, ()), ())
def impl_overstows_3_prj (y : EVs T impl_overstows_3_sv × EOs T impl_overstows_3_so) : (List SStow × List SStow × Int) × (Int × Int) := ((y.1.1, y.1.2.2.1, y.1.2.2.2.1), (y.1.2.1, y.1.2.2.2.2.1))
def impl_overstows_3_b (n : Nat) {R : Type} (K : Ex → Sm.St T → Option R) (c : List SStow × List SStow × Int) (x : Int × Int) (J : (Int × Int) → Option R) : Option R :=
  impl_overstows_L3 n (fun (y0 : Int) => K (.exit 0) (stOf (T := T) [3] [] [.one (.int .i64)] [] (y0, ()) ())) (fun z0 z1 => J (z0, z1)) c.1 x.1 c.2.1 c.2.2 x.2
def impl_overstows_3_sp (n : Nat) : LSpec T := mkSpec T ⟨[], [0, 3, 8, 9, 10], []⟩ impl_overstows_3_sv impl_overstows_3_so (List SStow × List SStow × Int) (Int × Int) impl_overstows_3_emb impl_overstows_3_prj (impl_overstows_3_b n)
noncomputable def impl_overstows_3_c : Code := ((loopCodes impl_overstows_code)[0]?).getD .skip
def impl_overstows_6_sv : List Sv := [.one (.arr 67), .one (.int .i64), .one (.ptr 40 0 0), .one (.arr 67), .one (.int .i64), .one (.int .i64), .one (.arr 67), .one (.int .i64), .one (.int .i64)]
def impl_overstows_6_so : List So := [.var [.str, .int .i64, .int .i64, .bool, .int .i64, .int .i64, .int .i64, .int .i64, .int .i64]]
def impl_overstows_6_emb (c : List SStow × List SStow × Int × Int × List SStow × Int × SStow) (x : Int × Int) : EVs T impl_overstows_6_sv × EOs T impl_overstows_6_so := ((c.1, x.1, (), c.2.1, c.2.2.1, c.2.2.2.1, c.2.2.2.2.1, c.2.2.2.2.2.1, x.2, ()), ((c.2.2.2.2.2.2.Box.Name, c.2.2.2.2.2.2.Box.Weight, c.2.2.2.2.2.2.Box.Class, c.2.2.2.2.2.2.Box.Cold, c.2.2.2.2.2.2.Box.From, c.2.2.2.2.2.2.Box.To, c.2.2.2.2.2.2.Spot.Bay, c.2.2.2.2.2.2.Spot.Row, c.2.2.2.2.2.2.Spot.Tier, ()), ()))
def impl_overstows_6_prj (y : EVs T impl_overstows_6_sv × EOs T impl_overstows_6_so) : (List SStow × List SStow × Int × Int × List SStow × Int × SStow) × (Int × Int) := ((y.1.1, y.1.2.2.2.1, y.1.2.2.2.2.1, y.1.2.2.2.2.2.1, y.1.2.2.2.2.2.2.1, y.1.2.2.2.2.2.2.2.1, ((⟨(⟨y.2.1.1, y.2.1.2.1, y.2.1.2.2.1, y.2.1.2.2.2.1, y.2.1.2.2.2.2.1, y.2.1.2.2.2.2.2.1⟩ : SBox), (⟨y.2.1.2.2.2.2.2.2.1, y.2.1.2.2.2.2.2.2.2.1, y.2.1.2.2.2.2.2.2.2.2.1⟩ : SSpot)⟩ : SStow) : SStow)), (y.1.2.1, y.1.2.2.2.2.2.2.2.2.1))
def impl_overstows_6_b (n : Nat) {R : Type} (K : Ex → Sm.St T → Option R) (c : List SStow × List SStow × Int × Int × List SStow × Int × SStow) (x : Int × Int) (J : (Int × Int) → Option R) : Option R :=
  impl_overstows_L6 n (fun (y1 : Int) => K (.exit 2) (stOf (T := T) [0, 3, 8, 9, 10] [] [.one (.arr 67), .one (.int .i64), .one (.arr 67), .one (.int .i64), .one (.int .i64)] [] (c.1, y1, c.2.1, c.2.2.1, c.2.2.2.1, ()) ())) (fun z0 z1 => J (z0, z1)) c.1 x.1 c.2.1 c.2.2.1 c.2.2.2.1 c.2.2.2.2.1 c.2.2.2.2.2.1 x.2 c.2.2.2.2.2.2
def impl_overstows_6_sp (n : Nat) : LSpec T := mkSpec T ⟨[], [0, 3, 5, 8, 9, 10, 14, 15, 16], [40]⟩ impl_overstows_6_sv impl_overstows_6_so (List SStow × List SStow × Int × Int × List SStow × Int × SStow) (Int × Int) impl_overstows_6_emb impl_overstows_6_prj (impl_overstows_6_b n)
noncomputable def impl_overstows_6_c : Code := ((loopCodes impl_overstows_code)[1]?).getD .skip
def impl_overstows_ann : Ann := fun id => bif Nat.beq id 3000003 then some ⟨[], [3], []⟩ else bif Nat.beq id 5000006 then some ⟨[], [0, 3, 8, 9, 10], []⟩ else none
def impl_overstows_Ls (n : Nat) : Nat → Option (LSpec T) := fun id => bif Nat.beq id 3 then some (impl_overstows_3_sp n) else bif Nat.beq id 6 then some (impl_overstows_6_sp n) else none
theorem impl_overstows_3_le (n : Nat) : LoopEq (T := T) (Phi n 57) (impl_overstows_Ls n) impl_overstows_ann n impl_overstows_3_c (impl_overstows_3_sp n) := ⟨mkSpec_dec (fun y => rfl), fun c x => by kernel_rfl, fun K J c x => by kernel_rfl⟩
theorem impl_overstows_6_le (n : Nat) : LoopEq (T := T) (Phi n 57) (impl_overstows_Ls n) impl_overstows_ann n impl_overstows_6_c (impl_overstows_6_sp n) := ⟨mkSpec_dec (fun y => rfl), fun c x => by kernel_rfl, fun K J c x => by kernel_rfl⟩
theorem impl_overstows_tie (n : Nat) (list0 : List SStow) : evF (T := T) (Phi n 57) (impl_overstows_Ls n) impl_overstows_ann n Try.f54 (sg 54) [vA T 44 list0] impl_overstows_dec = impl_overstows n list0 := by kernel_rfl
theorem impl_overstows_lo (n : Nat) : LoopsOk (T := T) (Phi n 57) (impl_overstows_Ls n) impl_overstows_ann n impl_overstows_code := loopsOk_all (cs := [impl_overstows_3_c, impl_overstows_6_c]) (by kernel_rfl) ⟨⟨_, by kernel_rfl, impl_overstows_3_le n⟩, ⟨_, by kernel_rfl, impl_overstows_6_le n⟩, trivial⟩
theorem impl_overstows_ok (n : Nat) : EntOk Try.prog (ents n) (impl_overstows_ent n) := by
  intro hs ar y hg h
  replace h : impl_overstows_D n ar = some y := h
  unfold impl_overstows_D at h
  replace h := ocons_some h
  obtain ⟨a0, r0, rfl, h⟩ := h
  replace h := onil_some h
  obtain ⟨rfl, h⟩ := h
  obtain ⟨list0, qh0, h⟩ := obind_some h
  rw [argV_eq ok qh0]
  exact call_of (phiE_nat _ _) hs ok mixed Try.func54 (c := impl_overstows_code) (by kernel_rfl) (impl_overstows_lo n) (by kernel_rfl) (by kernel_rfl) (by kernel_rfl) impl_overstows_de ((impl_overstows_tie n list0).trans h)
noncomputable def impl_own_impl_Stow_code : Code := match Try.f55.body with | some c => c | none => .skip
def impl_own_impl_Stow_ann : Ann := fun id => none
def impl_own_impl_Stow_Ls (n : Nat) : Nat → Option (LSpec T) := fun id => none
theorem impl_own_impl_Stow_tie (n : Nat) (l0 : List SStow) : evF (T := T) (Phi n 58) (impl_own_impl_Stow_Ls n) impl_own_impl_Stow_ann n Try.f55 (sg 55) [vA T 44 l0] impl_own_impl_Stow_dec = impl_own_impl_Stow n l0 := by kernel_rfl
theorem impl_own_impl_Stow_lo (n : Nat) : LoopsOk (T := T) (Phi n 58) (impl_own_impl_Stow_Ls n) impl_own_impl_Stow_ann n impl_own_impl_Stow_code := loopsOk_all (cs := []) (by kernel_rfl) trivial
theorem impl_own_impl_Stow_ok (n : Nat) : EntOk Try.prog (ents n) (impl_own_impl_Stow_ent n) := by
  intro hs ar y hg h
  replace h : impl_own_impl_Stow_D n ar = some y := h
  unfold impl_own_impl_Stow_D at h
  replace h := ocons_some h
  obtain ⟨a0, r0, rfl, h⟩ := h
  replace h := onil_some h
  obtain ⟨rfl, h⟩ := h
  obtain ⟨l0, qh0, h⟩ := obind_some h
  rw [argV_eq ok qh0]
  exact call_of (phiE_nat _ _) hs ok mixed Try.func55 (c := impl_own_impl_Stow_code) (by kernel_rfl) (impl_own_impl_Stow_lo n) (by kernel_rfl) (by kernel_rfl) (by kernel_rfl) impl_own_impl_Stow_de ((impl_own_impl_Stow_tie n l0).trans h)
noncomputable def impl_Fewest_2_1_code : Code := match Try.f57.body with | some c => c | none => .skip
def impl_Fewest_2_1_ann : Ann := fun id => none
def impl_Fewest_2_1_Ls (n : Nat) : Nat → Option (LSpec T) := fun id => none
theorem impl_Fewest_2_1_tie (n : Nat) (x0 : SStow) (a1 : SSpot) : evF (T := T) (Phi n 59) (impl_Fewest_2_1_Ls n) impl_Fewest_2_1_ann n Try.f57 (sg 57) [vA T 67 x0, .ptr 65 a1] impl_Fewest_2_1_dec = impl_Fewest_2_1 n x0 a1 := by kernel_rfl
theorem impl_Fewest_2_1_lo (n : Nat) : LoopsOk (T := T) (Phi n 59) (impl_Fewest_2_1_Ls n) impl_Fewest_2_1_ann n impl_Fewest_2_1_code := loopsOk_all (cs := []) (by kernel_rfl) trivial
theorem impl_Fewest_2_1_ok (n : Nat) : EntOk Try.prog (ents n) (impl_Fewest_2_1_ent n) := by
  intro hs ar y hg h
  replace h : impl_Fewest_2_1_D n ar = some y := h
  unfold impl_Fewest_2_1_D at h
  replace h := ocons_some h
  obtain ⟨a0, r0, rfl, h⟩ := h
  replace h := ocons_some h
  obtain ⟨a1, r1, rfl, h⟩ := h
  replace h := onil_some h
  obtain ⟨rfl, h⟩ := h
  obtain ⟨x0, qh0, h⟩ := obind_some h
  obtain ⟨a1, qh1, h⟩ := obind_some h
  rw [argV_eq ok qh0, argP_eq qh1]
  exact call_of (phiE_nat _ _) hs ok mixed Try.func57 (c := impl_Fewest_2_1_code) (by kernel_rfl) (impl_Fewest_2_1_lo n) (by kernel_rfl) (by kernel_rfl) (by kernel_rfl) impl_Fewest_2_1_de ((impl_Fewest_2_1_tie n x0 a1).trans h)
noncomputable def sIndex_Fewest_2_1_code : Code := match Try.f104.body with | some c => c | none => .skip
def sIndex_Fewest_2_1_2_sv : List Sv := [.one (.arr 67), .one (.fnr 57 [65]), .one (.int .i64), .one (.int .i64)]
def sIndex_Fewest_2_1_2_so : List So := []
def sIndex_Fewest_2_1_2_emb (c : List SStow × SSpot × Int) (x : Int) : EVs T sIndex_Fewest_2_1_2_sv × EOs T sIndex_Fewest_2_1_2_so := ((c.1, (c.2.1, ()), c.2.2, x, ()), ())
def sIndex_Fewest_2_1_2_prj (y : EVs T sIndex_Fewest_2_1_2_sv × EOs T sIndex_Fewest_2_1_2_so) : (List SStow × SSpot × Int) × Int := ((y.1.1, y.1.2.1.1, y.1.2.2.1), (y.1.2.2.2.1))
def sIndex_Fewest_2_1_2_b (n : Nat) {R : Type} (K : Ex → Sm.St T → Option R) (c : List SStow × SSpot × Int) (x : Int) (J : Int → Option R) : Option R :=
  sIndex_Fewest_2_1_L2 n (K (.exit 0) (stOf (T := T) [] [] [] [] () ())) (fun (y0 : Int) => K .ret (stOf (T := T) [4] [] [.one (.int .i64)] [] (y0, ()) ())) J c.1 c.2.1 c.2.2 x
def sIndex_Fewest_2_1_2_sp (n : Nat) : LSpec T := mkSpec T ⟨[], [0, 1, 7, 8], []⟩ sIndex_Fewest_2_1_2_sv sIndex_Fewest_2_1_2_so (List SStow × SSpot × Int) (Int) sIndex_Fewest_2_1_2_emb sIndex_Fewest_2_1_2_prj (sIndex_Fewest_2_1_2_b n)
noncomputable def sIndex_Fewest_2_1_2_c : Code := ((loopCodes sIndex_Fewest_2_1_code)[0]?).getD .skip
def sIndex_Fewest_2_1_ann : Ann := fun id => bif Nat.beq id 3000002 then some ⟨[], [], []⟩ else bif Nat.beq id 2000002 then some ⟨[], [4], []⟩ else none
def sIndex_Fewest_2_1_Ls (n : Nat) : Nat → Option (LSpec T) := fun id => bif Nat.beq id 2 then some (sIndex_Fewest_2_1_2_sp n) else none
theorem sIndex_Fewest_2_1_2_le (n : Nat) : LoopEq (T := T) (Phi n 60) (sIndex_Fewest_2_1_Ls n) sIndex_Fewest_2_1_ann n sIndex_Fewest_2_1_2_c (sIndex_Fewest_2_1_2_sp n) := ⟨mkSpec_dec (fun y => rfl), fun c x => by kernel_rfl, fun K J c x => by kernel_rfl⟩
theorem sIndex_Fewest_2_1_tie (n : Nat) (s0 : List SStow) (f1c0 : SSpot) : evF (T := T) (Phi n 60) (sIndex_Fewest_2_1_Ls n) sIndex_Fewest_2_1_ann n Try.f104 (sg 104) [vA T 44 s0, .fn 57 [.ptr 65 f1c0]] sIndex_Fewest_2_1_dec = sIndex_Fewest_2_1 n s0 f1c0 := by kernel_rfl
theorem sIndex_Fewest_2_1_lo (n : Nat) : LoopsOk (T := T) (Phi n 60) (sIndex_Fewest_2_1_Ls n) sIndex_Fewest_2_1_ann n sIndex_Fewest_2_1_code := loopsOk_all (cs := [sIndex_Fewest_2_1_2_c]) (by kernel_rfl) ⟨⟨_, by kernel_rfl, sIndex_Fewest_2_1_2_le n⟩, trivial⟩
theorem sIndex_Fewest_2_1_ok (n : Nat) : EntOk Try.prog (ents n) (sIndex_Fewest_2_1_ent n) := by
  intro hs ar y hg h
  replace h : sIndex_Fewest_2_1_D n ar = some y := h
  unfold sIndex_Fewest_2_1_D at h
  split at h
  · obtain ⟨s0, qh0, h⟩ := obind_some h
    obtain ⟨f1c0, qh1, h⟩ := obind_some h
    rw [argV_eq ok qh0, argP_eq qh1] at hg ⊢
    cases (show [_] = [57] from natsEq_eq hg)
    exact call_of (phiE_nat _ _) hs ok mixed Try.func104 (c := sIndex_Fewest_2_1_code) (by kernel_rfl) (sIndex_Fewest_2_1_lo n) (by kernel_rfl) (by kernel_rfl) (by kernel_rfl) sIndex_Fewest_2_1_de ((sIndex_Fewest_2_1_tie n s0 f1c0).trans h)
  · cases h
noncomputable def sContains_Fewest_2_1_code : Code := match Try.f56.body with | some c => c | none => .skip
def sContains_Fewest_2_1_ann : Ann := fun id => none
def sContains_Fewest_2_1_Ls (n : Nat) : Nat → Option (LSpec T) := fun id => none
theorem sContains_Fewest_2_1_tie (n : Nat) (s0 : List SStow) (f1c0 : SSpot) : evF (T := T) (Phi n 61) (sContains_Fewest_2_1_Ls n) sContains_Fewest_2_1_ann n Try.f56 (sg 56) [vA T 44 s0, .fn 57 [.ptr 65 f1c0]] sContains_Fewest_2_1_dec = sContains_Fewest_2_1 n s0 f1c0 := by kernel_rfl
theorem sContains_Fewest_2_1_lo (n : Nat) : LoopsOk (T := T) (Phi n 61) (sContains_Fewest_2_1_Ls n) sContains_Fewest_2_1_ann n sContains_Fewest_2_1_code := loopsOk_all (cs := []) (by kernel_rfl) trivial
theorem sContains_Fewest_2_1_ok (n : Nat) : EntOk Try.prog (ents n) (sContains_Fewest_2_1_ent n) := by
  intro hs ar y hg h
  replace h : sContains_Fewest_2_1_D n ar = some y := h
  unfold sContains_Fewest_2_1_D at h
  split at h
  · obtain ⟨s0, qh0, h⟩ := obind_some h
    obtain ⟨f1c0, qh1, h⟩ := obind_some h
    rw [argV_eq ok qh0, argP_eq qh1] at hg ⊢
    cases (show [_] = [57] from natsEq_eq hg)
    exact call_of (phiE_nat _ _) hs ok mixed Try.func56 (c := sContains_Fewest_2_1_code) (by kernel_rfl) (sContains_Fewest_2_1_lo n) (by kernel_rfl) (by kernel_rfl) (by kernel_rfl) sContains_Fewest_2_1_de ((sContains_Fewest_2_1_tie n s0 f1c0).trans h)
  · cases h
abbrev impl_Fewest_2__self_Phi (n : Nat) (rc : List SStow → List SBox → List SHatch → Int → List SStow → List SSpot → Option (Int × List SStow)) {R : Type} (g : Nat) (ar : List (A T)) (K : Res T → Option R) : Option R := PhiR (T := T) (PhiE (ents n) 62) 53 [2000000053] (impl_Fewest_2__self_Dr rc) impl_Fewest_2__self_enc g ar K
noncomputable def impl_Fewest_2__self_code : Code := match Try.f53.body with | some c => c | none => .skip
def impl_Fewest_2__self_7_sv : List Sv := [.one (.arr 67), .one (.rptr 49 0), .one (.fnm 2000000053 [.r 49, .r 47, .p 4503599627370496, .p 4503599627370497, .r 94, .u]), .one (.arr 65), .one (.int .i64), .one (.int .i64)]
def impl_Fewest_2__self_7_so : List So := [.var [.int .i64], .var [.own 3000000 67 false], .arr 67 false]
def impl_Fewest_2__self_7_emb (c : List SStow × List SBox × List SBox × List SHatch × List SSpot × List SSpot × Int) (x : Int × Int × List SStow) : EVs T impl_Fewest_2__self_7_sv × EOs T impl_Fewest_2__self_7_so := ((c.1, c.2.1, (c.2.2.1, c.2.2.2.1, (), (), c.2.2.2.2.1, (), ()), c.2.2.2.2.2.1, c.2.2.2.2.2.2, x.1, ()), ((x.2.1, ()), ((), ()), x.2.2, ()))
def impl_Fewest_2__self_7_prj (y : EVs T impl_Fewest_2__self_7_sv × EOs T impl_Fewest_2__self_7_so) : (List SStow × List SBox × List SBox × List SHatch × List SSpot × List SSpot × Int) × (Int × Int × List SStow) := ((y.1.1, y.1.2.1, y.1.2.2.1.1, y.1.2.2.1.2.1, y.1.2.2.1.2.2.2.2.1, y.1.2.2.2.1, y.1.2.2.2.2.1), (y.1.2.2.2.2.2.1, y.2.1.1, y.2.2.2.1))
def impl_Fewest_2__self_7_b (n : Nat) (rc : List SStow → List SBox → List SHatch → Int → List SStow → List SSpot → Option (Int × List SStow)) {R : Type} (K : Ex → Sm.St T → Option R) (c : List SStow × List SBox × List SBox × List SHatch × List SSpot × List SSpot × Int) (x : Int × Int × List SStow) (J : (Int × Int × List SStow) → Option R) : Option R :=
  impl_Fewest_2__self_L7 n rc (fun (y0 : Int) (y1 : List SStow) => K (.exit 0) (stOf (T := T) [] [4503599627370496, 4503599627370497, 3000000] [] [.var [.int .i64], .var [.own 3000000 67 false], .arr 67 false] () ((y0, ()), ((), ()), y1, ()))) (fun z0 z1 z2 => J (z0, z1, z2)) c.1 c.2.1 c.2.2.1 c.2.2.2.1 c.2.2.2.2.1 c.2.2.2.2.2.1 c.2.2.2.2.2.2 x.1 x.2.1 x.2.2
def impl_Fewest_2__self_7_sp (n : Nat) (rc : List SStow → List SBox → List SHatch → Int → List SStow → List SSpot → Option (Int × List SStow)) : LSpec T := mkSpec T ⟨[((.cell 4503599627370497 0), 3000000, 67)], [0, 1, 6, 38, 39, 40], [4503599627370496, 4503599627370497, 3000000]⟩ impl_Fewest_2__self_7_sv impl_Fewest_2__self_7_so (List SStow × List SBox × List SBox × List SHatch × List SSpot × List SSpot × Int) (Int × Int × List SStow) impl_Fewest_2__self_7_emb impl_Fewest_2__self_7_prj (impl_Fewest_2__self_7_b n rc)
noncomputable def impl_Fewest_2__self_7_c : Code := ((loopCodes impl_Fewest_2__self_code)[0]?).getD .skip
def impl_Fewest_2__self_ann : Ann := fun id => bif Nat.beq id 3000007 then some ⟨[((.cell 4503599627370497 0), 3000000, 67)], [], [4503599627370496, 4503599627370497, 3000000]⟩ else none
def impl_Fewest_2__self_Ls (n : Nat) (rc : List SStow → List SBox → List SHatch → Int → List SStow → List SSpot → Option (Int × List SStow)) : Nat → Option (LSpec T) := fun id => bif Nat.beq id 7 then some (impl_Fewest_2__self_7_sp n rc) else none
theorem impl_Fewest_2__self_7_le (n : Nat) (rc : List SStow → List SBox → List SHatch → Int → List SStow → List SSpot → Option (Int × List SStow)) : LoopEq (T := T) (impl_Fewest_2__self_Phi n rc) (impl_Fewest_2__self_Ls n rc) impl_Fewest_2__self_ann n impl_Fewest_2__self_7_c (impl_Fewest_2__self_7_sp n rc) := ⟨mkSpec_dec (fun y => rfl), fun c x => by kernel_rfl, fun K J c x => by kernel_rfl⟩
theorem impl_Fewest_2__self_tie (n : Nat) (rc : List SStow → List SBox → List SHatch → Int → List SStow → List SSpot → Option (Int × List SStow)) (l0 : List SStow) (a1 : List SBox) (a2 : List SHatch) (a3 : Int) (a4 : List SStow) (a5 : List SSpot) : evF (T := T) (impl_Fewest_2__self_Phi n rc) (impl_Fewest_2__self_Ls n rc) impl_Fewest_2__self_ann n Try.f53 (sg 53) [vA T 44 l0, .ptr 49 a1, .ptr 47 a2, .ptr 3 a3, .ptr 44 a4, .ptr 94 a5, .fn 2000000053 []] impl_Fewest_2__self_dec = impl_Fewest_2__self_b n rc l0 a1 a2 a3 a4 a5 := by kernel_rfl
theorem impl_Fewest_2__self_lo (n : Nat) (rc : List SStow → List SBox → List SHatch → Int → List SStow → List SSpot → Option (Int × List SStow)) : LoopsOk (T := T) (impl_Fewest_2__self_Phi n rc) (impl_Fewest_2__self_Ls n rc) impl_Fewest_2__self_ann n impl_Fewest_2__self_code := loopsOk_all (cs := [impl_Fewest_2__self_7_c]) (by kernel_rfl) ⟨⟨_, by kernel_rfl, impl_Fewest_2__self_7_le n rc⟩, trivial⟩
theorem impl_Fewest_2__self_okr (n : Nat) (hs : SemOk (PhiE (T := T) (ents n) 62) (CallOk Try.prog T)) : ∀ m ar y, natsEq (fnsOf ar) [2000000053] = true → impl_Fewest_2__self_Dr (impl_Fewest_2__self_r n m) ar = some y → CallOk Try.prog T 53 ar (impl_Fewest_2__self_enc y) := by
  intro m
  induction m with
  | zero =>
    intro ar y hg h
    unfold impl_Fewest_2__self_Dr at h
    split at h
    · obtain ⟨l0, qh0, h⟩ := obind_some h
      obtain ⟨a1, qh1, h⟩ := obind_some h
      obtain ⟨a2, qh2, h⟩ := obind_some h
      obtain ⟨a3, qh3, h⟩ := obind_some h
      obtain ⟨a4, qh4, h⟩ := obind_some h
      obtain ⟨a5, qh5, h⟩ := obind_some h
      rw [argV_eq ok qh0, argP_eq qh1, argP_eq qh2, argP_eq qh3, argP_eq qh4, argP_eq qh5] at hg ⊢
      cases (show [_] = [2000000053] from natsEq_eq hg)
      exact nomatch (show (none : Option (Int × List SStow)) = some y from h)
    · cases h
  | succ m ih =>
    intro ar y hg h
    unfold impl_Fewest_2__self_Dr at h
    split at h
    · obtain ⟨l0, qh0, h⟩ := obind_some h
      obtain ⟨a1, qh1, h⟩ := obind_some h
      obtain ⟨a2, qh2, h⟩ := obind_some h
      obtain ⟨a3, qh3, h⟩ := obind_some h
      obtain ⟨a4, qh4, h⟩ := obind_some h
      obtain ⟨a5, qh5, h⟩ := obind_some h
      rw [argV_eq ok qh0, argP_eq qh1, argP_eq qh2, argP_eq qh3, argP_eq qh4, argP_eq qh5] at hg ⊢
      cases (show [_] = [2000000053] from natsEq_eq hg)
      exact call_of (phiR_nat (phiE_nat _ _) _ _ _ _) (phiR_ok hs ih) ok mixed Try.func53 (c := impl_Fewest_2__self_code) (by kernel_rfl) (impl_Fewest_2__self_lo n (impl_Fewest_2__self_r n m)) (by kernel_rfl) (by kernel_rfl) (by kernel_rfl) impl_Fewest_2__self_de ((impl_Fewest_2__self_tie n (impl_Fewest_2__self_r n m) l0 a1 a2 a3 a4 a5).trans h)
    · cases h
theorem impl_Fewest_2__self_ok (n : Nat) : EntOk Try.prog (ents n) (impl_Fewest_2__self_ent n) := fun hs ar y hg h => impl_Fewest_2__self_okr n hs n ar y hg h
noncomputable def impl_Fewest_code : Code := match Try.f16.body with | some c => c | none => .skip
def impl_Fewest_4_sv : List Sv := [.one (.ptr 16 0 0), .one (.ptr 24 0 0), .one (.arr 63), .one (.int .i64), .one (.int .i64)]
def impl_Fewest_4_so : List So := [.var [.arr 96], .var [.arr 63]]
def impl_Fewest_4_emb (c : List SBox × Int × List SHatch × List SBox) (x : Int) : EVs T impl_Fewest_4_sv × EOs T impl_Fewest_4_so := (((), (), c.1, c.2.1, x, ()), ((c.2.2.1, ()), (c.2.2.2, ()), ()))
def impl_Fewest_4_prj (y : EVs T impl_Fewest_4_sv × EOs T impl_Fewest_4_so) : (List SBox × Int × List SHatch × List SBox) × Int := ((y.1.2.2.1, y.1.2.2.2.1, y.2.1.1, y.2.2.1.1), (y.1.2.2.2.2.1))
def impl_Fewest_4_b (n : Nat) {R : Type} (K : Ex → Sm.St T → Option R) (c : List SBox × Int × List SHatch × List SBox) (x : Int) (J : Int → Option R) : Option R :=
  impl_Fewest_L4 n (K (.exit 0) (stOf (T := T) [2, 3] [16, 24] [.one (.ptr 16 0 0), .one (.ptr 24 0 0)] [.var [.arr 96], .var [.arr 63]] ((), (), ()) ((c.2.2.1, ()), (c.2.2.2, ()), ()))) (fun (y0 : Bool) (y1 : List SStow) => K .ret (stOf (T := T) [4, 5] [3000000] [.one (.own 3000000 67 false), .one (.bool)] [.arr 67 false] ((), y0, ()) (y1, ()))) J c.1 c.2.1 x c.2.2.1 c.2.2.2
def impl_Fewest_4_sp (n : Nat) : LSpec T := mkSpec T ⟨[], [2, 3, 24, 25, 26], [16, 24]⟩ impl_Fewest_4_sv impl_Fewest_4_so (List SBox × Int × List SHatch × List SBox) (Int) impl_Fewest_4_emb impl_Fewest_4_prj (impl_Fewest_4_b n)
noncomputable def impl_Fewest_4_c : Code := ((loopCodes impl_Fewest_code)[0]?).getD .skip
def impl_Fewest_11_sv : List Sv := [.one (.ptr 16 0 0), .one (.ptr 24 0 0), .one (.ptr 64 0 0), .one (.arr 96), .one (.int .i64), .one (.int .i64)]
def impl_Fewest_11_so : List So := [.var [.arr 96], .var [.arr 63], .var [.own 3000001 65 false], .arr 65 false]
def impl_Fewest_11_emb (c : List SHatch × Int × List SHatch × List SBox) (x : Int × List SSpot) : EVs T impl_Fewest_11_sv × EOs T impl_Fewest_11_so := (((), (), (), c.1, c.2.1, x.1, ()), ((c.2.2.1, ()), (c.2.2.2, ()), ((), ()), x.2, ()))
def impl_Fewest_11_prj (y : EVs T impl_Fewest_11_sv × EOs T impl_Fewest_11_so) : (List SHatch × Int × List SHatch × List SBox) × (Int × List SSpot) := ((y.1.2.2.2.1, y.1.2.2.2.2.1, y.2.1.1, y.2.2.1.1), (y.1.2.2.2.2.2.1, y.2.2.2.2.1))
def impl_Fewest_11_b (n : Nat) {R : Type} (K : Ex → Sm.St T → Option R) (c : List SHatch × Int × List SHatch × List SBox) (x : Int × List SSpot) (J : (Int × List SSpot) → Option R) : Option R :=
  impl_Fewest_L11 n (fun (y2 : List SSpot) => K (.exit 2) (stOf (T := T) [2, 3, 8] [16, 24, 64, 3000001] [.one (.ptr 16 0 0), .one (.ptr 24 0 0), .one (.ptr 64 0 0)] [.var [.arr 96], .var [.arr 63], .var [.own 3000001 65 false], .arr 65 false] ((), (), (), ()) ((c.2.2.1, ()), (c.2.2.2, ()), ((), ()), y2, ()))) (fun z0 z1 => J (z0, z1)) c.1 c.2.1 x.1 c.2.2.1 c.2.2.2 x.2
def impl_Fewest_11_sp (n : Nat) : LSpec T := mkSpec T ⟨[((.cell 64 0), 3000001, 65)], [2, 3, 8, 42, 43, 44], [16, 24, 64, 3000001]⟩ impl_Fewest_11_sv impl_Fewest_11_so (List SHatch × Int × List SHatch × List SBox) (Int × List SSpot) impl_Fewest_11_emb impl_Fewest_11_prj (impl_Fewest_11_b n)
noncomputable def impl_Fewest_11_c : Code := ((loopCodes impl_Fewest_code)[1]?).getD .skip
def impl_Fewest_14_sv : List Sv := [.one (.ptr 16 0 0), .one (.ptr 24 0 0), .one (.ptr 64 0 0), .one (.int .i64), .one (.ptr 80 0 0), .one (.arr 96), .one (.int .i64), .one (.int .i64), .one (.int .i64), .one (.int .i64)]
def impl_Fewest_14_so : List So := [.var [.arr 96], .var [.arr 63], .var [.own 3000001 65 false], .arr 65 false, .var [.int .i64, .int .i64, .int .i64, .int .i64]]
def impl_Fewest_14_emb (c : Int × List SHatch × Int × Int × Int × List SHatch × List SBox × SHatch) (x : Int × List SSpot) : EVs T impl_Fewest_14_sv × EOs T impl_Fewest_14_so := (((), (), (), c.1, (), c.2.1, c.2.2.1, c.2.2.2.1, c.2.2.2.2.1, x.1, ()), ((c.2.2.2.2.2.1, ()), (c.2.2.2.2.2.2.1, ()), ((), ()), x.2, (c.2.2.2.2.2.2.2.Rows, c.2.2.2.2.2.2.2.Tiers, c.2.2.2.2.2.2.2.Most, c.2.2.2.2.2.2.2.Plugs, ()), ()))
def impl_Fewest_14_prj (y : EVs T impl_Fewest_14_sv × EOs T impl_Fewest_14_so) : (Int × List SHatch × Int × Int × Int × List SHatch × List SBox × SHatch) × (Int × List SSpot) := ((y.1.2.2.2.1, y.1.2.2.2.2.2.1, y.1.2.2.2.2.2.2.1, y.1.2.2.2.2.2.2.2.1, y.1.2.2.2.2.2.2.2.2.1, y.2.1.1, y.2.2.1.1, ((⟨y.2.2.2.2.2.1.1, y.2.2.2.2.2.1.2.1, y.2.2.2.2.2.1.2.2.1, y.2.2.2.2.2.1.2.2.2.1⟩ : SHatch) : SHatch)), (y.1.2.2.2.2.2.2.2.2.2.1, y.2.2.2.2.1))
def impl_Fewest_14_b (n : Nat) {R : Type} (K : Ex → Sm.St T → Option R) (c : Int × List SHatch × Int × Int × Int × List SHatch × List SBox × SHatch) (x : Int × List SSpot) (J : (Int × List SSpot) → Option R) : Option R :=
  impl_Fewest_L14 n (fun (y5 : List SSpot) => K (.exit 4) (stOf (T := T) [2, 3, 8, 42, 43, 44] [16, 24, 64, 3000001] [.one (.ptr 16 0 0), .one (.ptr 24 0 0), .one (.ptr 64 0 0), .one (.arr 96), .one (.int .i64), .one (.int .i64)] [.var [.arr 96], .var [.arr 63], .var [.own 3000001 65 false], .arr 65 false] ((), (), (), c.2.1, c.2.2.1, c.2.2.2.1, ()) ((c.2.2.2.2.2.1, ()), (c.2.2.2.2.2.2.1, ()), ((), ()), y5, ()))) (fun z0 z1 => J (z0, z1)) c.1 c.2.1 c.2.2.1 c.2.2.2.1 c.2.2.2.2.1 x.1 c.2.2.2.2.2.1 c.2.2.2.2.2.2.1 x.2 c.2.2.2.2.2.2.2
def impl_Fewest_14_sp (n : Nat) : LSpec T := mkSpec T ⟨[((.cell 64 0), 3000001, 65)], [2, 3, 8, 9, 10, 42, 43, 44, 50, 51], [16, 24, 64, 3000001, 80]⟩ impl_Fewest_14_sv impl_Fewest_14_so (Int × List SHatch × Int × Int × Int × List SHatch × List SBox × SHatch) (Int × List SSpot) impl_Fewest_14_emb impl_Fewest_14_prj (impl_Fewest_14_b n)
noncomputable def impl_Fewest_14_c : Code := ((loopCodes impl_Fewest_code)[2]?).getD .skip
def impl_Fewest_17_sv : List Sv := [.one (.ptr 16 0 0), .one (.ptr 24 0 0), .one (.ptr 64 0 0), .one (.int .i64), .one (.ptr 80 0 0), .one (.int .i64), .one (.arr 96), .one (.int .i64), .one (.int .i64), .one (.int .i64), .one (.int .i64), .one (.int .i64), .one (.int .i64)]
def impl_Fewest_17_so : List So := [.var [.arr 96], .var [.arr 63], .var [.own 3000001 65 false], .arr 65 false, .var [.int .i64, .int .i64, .int .i64, .int .i64]]
def impl_Fewest_17_emb (c : Int × Int × List SHatch × Int × Int × Int × Int × Int × List SHatch × List SBox × SHatch) (x : Int × List SSpot) : EVs T impl_Fewest_17_sv × EOs T impl_Fewest_17_so := (((), (), (), c.1, (), c.2.1, c.2.2.1, c.2.2.2.1, c.2.2.2.2.1, c.2.2.2.2.2.1, c.2.2.2.2.2.2.1, c.2.2.2.2.2.2.2.1, x.1, ()), ((c.2.2.2.2.2.2.2.2.1, ()), (c.2.2.2.2.2.2.2.2.2.1, ()), ((), ()), x.2, (c.2.2.2.2.2.2.2.2.2.2.Rows, c.2.2.2.2.2.2.2.2.2.2.Tiers, c.2.2.2.2.2.2.2.2.2.2.Most, c.2.2.2.2.2.2.2.2.2.2.Plugs, ()), ()))
def impl_Fewest_17_prj (y : EVs T impl_Fewest_17_sv × EOs T impl_Fewest_17_so) : (Int × Int × List SHatch × Int × Int × Int × Int × Int × List SHatch × List SBox × SHatch) × (Int × List SSpot) := ((y.1.2.2.2.1, y.1.2.2.2.2.2.1, y.1.2.2.2.2.2.2.1, y.1.2.2.2.2.2.2.2.1, y.1.2.2.2.2.2.2.2.2.1, y.1.2.2.2.2.2.2.2.2.2.1, y.1.2.2.2.2.2.2.2.2.2.2.1, y.1.2.2.2.2.2.2.2.2.2.2.2.1, y.2.1.1, y.2.2.1.1, ((⟨y.2.2.2.2.2.1.1, y.2.2.2.2.2.1.2.1, y.2.2.2.2.2.1.2.2.1, y.2.2.2.2.2.1.2.2.2.1⟩ : SHatch) : SHatch)), (y.1.2.2.2.2.2.2.2.2.2.2.2.2.1, y.2.2.2.2.1))
def impl_Fewest_17_b (n : Nat) {R : Type} (K : Ex → Sm.St T → Option R) (c : Int × Int × List SHatch × Int × Int × Int × Int × Int × List SHatch × List SBox × SHatch) (x : Int × List SSpot) (J : (Int × List SSpot) → Option R) : Option R :=
  impl_Fewest_L17 n (fun (y8 : List SSpot) => K (.exit 6) (stOf (T := T) [2, 3, 8, 9, 10, 42, 43, 44, 50, 51] [16, 24, 64, 3000001, 80] [.one (.ptr 16 0 0), .one (.ptr 24 0 0), .one (.ptr 64 0 0), .one (.int .i64), .one (.ptr 80 0 0), .one (.arr 96), .one (.int .i64), .one (.int .i64), .one (.int .i64), .one (.int .i64)] [.var [.arr 96], .var [.arr 63], .var [.own 3000001 65 false], .arr 65 false, .var [.int .i64, .int .i64, .int .i64, .int .i64]] ((), (), (), c.1, (), c.2.2.1, c.2.2.2.1, c.2.2.2.2.1, c.2.2.2.2.2.1, c.2.2.2.2.2.2.1, ()) ((c.2.2.2.2.2.2.2.2.1, ()), (c.2.2.2.2.2.2.2.2.2.1, ()), ((), ()), y8, (c.2.2.2.2.2.2.2.2.2.2.Rows, c.2.2.2.2.2.2.2.2.2.2.Tiers, c.2.2.2.2.2.2.2.2.2.2.Most, c.2.2.2.2.2.2.2.2.2.2.Plugs, ()), ()))) (fun z0 z1 => J (z0, z1)) c.1 c.2.1 c.2.2.1 c.2.2.2.1 c.2.2.2.2.1 c.2.2.2.2.2.1 c.2.2.2.2.2.2.1 c.2.2.2.2.2.2.2.1 x.1 c.2.2.2.2.2.2.2.2.1 c.2.2.2.2.2.2.2.2.2.1 x.2 c.2.2.2.2.2.2.2.2.2.2
def impl_Fewest_17_sp (n : Nat) : LSpec T := mkSpec T ⟨[((.cell 64 0), 3000001, 65)], [2, 3, 8, 9, 10, 11, 42, 43, 44, 50, 51, 55, 56], [16, 24, 64, 3000001, 80]⟩ impl_Fewest_17_sv impl_Fewest_17_so (Int × Int × List SHatch × Int × Int × Int × Int × Int × List SHatch × List SBox × SHatch) (Int × List SSpot) impl_Fewest_17_emb impl_Fewest_17_prj (impl_Fewest_17_b n)
noncomputable def impl_Fewest_17_c : Code := ((loopCodes impl_Fewest_code)[3]?).getD .skip
def impl_Fewest_ann : Ann := fun id => bif Nat.beq id 3000004 then some ⟨[], [2, 3], [16, 24]⟩ else bif Nat.beq id 2000004 then some ⟨[((.reg 4), 3000000, 67)], [4, 5], [3000000]⟩ else bif Nat.beq id 5000011 then some ⟨[((.cell 64 0), 3000001, 65)], [2, 3, 8], [16, 24, 64, 3000001]⟩ else bif Nat.beq id 7000014 then some ⟨[((.cell 64 0), 3000001, 65)], [2, 3, 8, 42, 43, 44], [16, 24, 64, 3000001]⟩ else bif Nat.beq id 9000017 then some ⟨[((.cell 64 0), 3000001, 65)], [2, 3, 8, 9, 10, 42, 43, 44, 50, 51], [16, 24, 64, 3000001, 80]⟩ else bif Nat.beq id 25 then some ⟨[((.cell 64 0), 65, 999999)], [2, 3, 8], [16, 24, 64]⟩ else bif Nat.beq id 28 then some ⟨[((.reg 2), 47, 999997), ((.reg 3), 49, 999997), ((.reg 8), 94, 999997)], [2, 3, 8, 13, 14, 15], [104, 112, 120]⟩ else bif Nat.beq id 29 then some ⟨[((.reg 15), 0, 999996)], [2, 3, 8, 13, 14, 15, 72], [104, 112]⟩ else none
def impl_Fewest_Ls (n : Nat) : Nat → Option (LSpec T) := fun id => bif Nat.beq id 4 then some (impl_Fewest_4_sp n) else bif Nat.beq id 11 then some (impl_Fewest_11_sp n) else bif Nat.beq id 14 then some (impl_Fewest_14_sp n) else bif Nat.beq id 17 then some (impl_Fewest_17_sp n) else none
theorem impl_Fewest_4_le (n : Nat) : LoopEq (T := T) (Phi n 63) (impl_Fewest_Ls n) impl_Fewest_ann n impl_Fewest_4_c (impl_Fewest_4_sp n) := ⟨mkSpec_dec (fun y => rfl), fun c x => by kernel_rfl, fun K J c x => by kernel_rfl⟩
theorem impl_Fewest_11_le (n : Nat) : LoopEq (T := T) (Phi n 63) (impl_Fewest_Ls n) impl_Fewest_ann n impl_Fewest_11_c (impl_Fewest_11_sp n) := ⟨mkSpec_dec (fun y => rfl), fun c x => by kernel_rfl, fun K J c x => by kernel_rfl⟩
theorem impl_Fewest_14_le (n : Nat) : LoopEq (T := T) (Phi n 63) (impl_Fewest_Ls n) impl_Fewest_ann n impl_Fewest_14_c (impl_Fewest_14_sp n) := ⟨mkSpec_dec (fun y => rfl), fun c x => by kernel_rfl, fun K J c x => by kernel_rfl⟩
theorem impl_Fewest_17_le (n : Nat) : LoopEq (T := T) (Phi n 63) (impl_Fewest_Ls n) impl_Fewest_ann n impl_Fewest_17_c (impl_Fewest_17_sp n) := ⟨mkSpec_dec (fun y => rfl), fun c x => by kernel_rfl, fun K J c x => by kernel_rfl⟩
theorem impl_Fewest_tie (n : Nat) (bays0 : List SHatch) (boxes1 : List SBox) : evF (T := T) (Phi n 63) (impl_Fewest_Ls n) impl_Fewest_ann n Try.f16 (sg 16) [vA T 47 bays0, vA T 49 boxes1] impl_Fewest_dec = impl_Fewest n bays0 boxes1 := by kernel_rfl
theorem impl_Fewest_lo (n : Nat) : LoopsOk (T := T) (Phi n 63) (impl_Fewest_Ls n) impl_Fewest_ann n impl_Fewest_code := loopsOk_all (cs := [impl_Fewest_4_c, impl_Fewest_11_c, impl_Fewest_14_c, impl_Fewest_17_c]) (by kernel_rfl) ⟨⟨_, by kernel_rfl, impl_Fewest_4_le n⟩, ⟨_, by kernel_rfl, impl_Fewest_11_le n⟩, ⟨_, by kernel_rfl, impl_Fewest_14_le n⟩, ⟨_, by kernel_rfl, impl_Fewest_17_le n⟩, trivial⟩
theorem impl_Fewest_ok (n : Nat) : EntOk Try.prog (ents n) (impl_Fewest_ent n) := by
  intro hs ar y hg h
  replace h : impl_Fewest_D n ar = some y := h
  unfold impl_Fewest_D at h
  replace h := ocons_some h
  obtain ⟨a0, r0, rfl, h⟩ := h
  replace h := ocons_some h
  obtain ⟨a1, r1, rfl, h⟩ := h
  replace h := onil_some h
  obtain ⟨rfl, h⟩ := h
  obtain ⟨bays0, qh0, h⟩ := obind_some h
  obtain ⟨boxes1, qh1, h⟩ := obind_some h
  rw [argV_eq ok qh0, argV_eq ok qh1]
  exact call_of (phiE_nat _ _) hs ok mixed Try.func16 (c := impl_Fewest_code) (by kernel_rfl) (impl_Fewest_lo n) (by kernel_rfl) (by kernel_rfl) (by kernel_rfl) impl_Fewest_de ((impl_Fewest_tie n bays0 boxes1).trans h)
noncomputable def spec_HatchesOk_code : Code := match Try.f44.body with | some c => c | none => .skip
def spec_HatchesOk_2_sv : List Sv := [.one (.arr 96), .one (.int .i64)]
def spec_HatchesOk_2_so : List So := []
def spec_HatchesOk_2_emb (c : List SHatch) (x : Int) : EVs T spec_HatchesOk_2_sv × EOs T spec_HatchesOk_2_so := ((c, x, ()), ())
def spec_HatchesOk_2_prj (y : EVs T spec_HatchesOk_2_sv × EOs T spec_HatchesOk_2_so) : List SHatch × Int := ((y.1.1), (y.1.2.1))
def spec_HatchesOk_2_b (n : Nat) {R : Type} (K : Ex → Sm.St T → Option R) (c : List SHatch) (x : Int) (J : Int → Option R) : Option R :=
  spec_HatchesOk_L2 n (K (.exit 0) (stOf (T := T) [0] [] [.one (.arr 96)] [] (c, ()) ())) (fun (y0 : Bool) => K .ret (stOf (T := T) [2] [] [.one (.bool)] [] (y0, ()) ())) J c x
def spec_HatchesOk_2_sp (n : Nat) : LSpec T := mkSpec T ⟨[], [0, 3], []⟩ spec_HatchesOk_2_sv spec_HatchesOk_2_so (List SHatch) (Int) spec_HatchesOk_2_emb spec_HatchesOk_2_prj (spec_HatchesOk_2_b n)
noncomputable def spec_HatchesOk_2_c : Code := ((loopCodes spec_HatchesOk_code)[0]?).getD .skip
def spec_HatchesOk_ann : Ann := fun id => bif Nat.beq id 3000002 then some ⟨[], [0], []⟩ else bif Nat.beq id 2000002 then some ⟨[], [2], []⟩ else none
def spec_HatchesOk_Ls (n : Nat) : Nat → Option (LSpec T) := fun id => bif Nat.beq id 2 then some (spec_HatchesOk_2_sp n) else none
theorem spec_HatchesOk_2_le (n : Nat) : LoopEq (T := T) (Phi n 64) (spec_HatchesOk_Ls n) spec_HatchesOk_ann n spec_HatchesOk_2_c (spec_HatchesOk_2_sp n) := ⟨mkSpec_dec (fun y => rfl), fun c x => by kernel_rfl, fun K J c x => by kernel_rfl⟩
theorem spec_HatchesOk_tie (n : Nat) (bays0 : List SHatch) : evF (T := T) (Phi n 64) (spec_HatchesOk_Ls n) spec_HatchesOk_ann n Try.f44 (sg 44) [vA T 47 bays0] spec_HatchesOk_dec = spec_HatchesOk n bays0 := by kernel_rfl
theorem spec_HatchesOk_lo (n : Nat) : LoopsOk (T := T) (Phi n 64) (spec_HatchesOk_Ls n) spec_HatchesOk_ann n spec_HatchesOk_code := loopsOk_all (cs := [spec_HatchesOk_2_c]) (by kernel_rfl) ⟨⟨_, by kernel_rfl, spec_HatchesOk_2_le n⟩, trivial⟩
theorem spec_HatchesOk_ok (n : Nat) : EntOk Try.prog (ents n) (spec_HatchesOk_ent n) := by
  intro hs ar y hg h
  replace h : spec_HatchesOk_D n ar = some y := h
  unfold spec_HatchesOk_D at h
  replace h := ocons_some h
  obtain ⟨a0, r0, rfl, h⟩ := h
  replace h := onil_some h
  obtain ⟨rfl, h⟩ := h
  obtain ⟨bays0, qh0, h⟩ := obind_some h
  rw [argV_eq ok qh0]
  exact call_of (phiE_nat _ _) hs ok mixed Try.func44 (c := spec_HatchesOk_code) (by kernel_rfl) (spec_HatchesOk_lo n) (by kernel_rfl) (by kernel_rfl) (by kernel_rfl) spec_HatchesOk_de ((spec_HatchesOk_tie n bays0).trans h)
noncomputable def spec_BoxName_code : Code := match Try.f94.body with | some c => c | none => .skip
def spec_BoxName_ann : Ann := fun id => none
def spec_BoxName_Ls (n : Nat) : Nat → Option (LSpec T) := fun id => none
theorem spec_BoxName_tie (n : Nat) (text0 : ByteArray) : evF (T := T) (Phi n 65) (spec_BoxName_Ls n) spec_BoxName_ann n Try.f94 (sg 94) [vA T 9 text0] spec_BoxName_dec = spec_BoxName n text0 := by kernel_rfl
theorem spec_BoxName_lo (n : Nat) : LoopsOk (T := T) (Phi n 65) (spec_BoxName_Ls n) spec_BoxName_ann n spec_BoxName_code := loopsOk_all (cs := []) (by kernel_rfl) trivial
theorem spec_BoxName_ok (n : Nat) : EntOk Try.prog (ents n) (spec_BoxName_ent n) := by
  intro hs ar y hg h
  replace h : spec_BoxName_D n ar = some y := h
  unfold spec_BoxName_D at h
  replace h := ocons_some h
  obtain ⟨a0, r0, rfl, h⟩ := h
  replace h := onil_some h
  obtain ⟨rfl, h⟩ := h
  obtain ⟨text0, qh0, h⟩ := obind_some h
  rw [argV_eq ok qh0]
  exact call_of (phiE_nat _ _) hs ok mixed Try.func94 (c := spec_BoxName_code) (by kernel_rfl) (spec_BoxName_lo n) (by kernel_rfl) (by kernel_rfl) (by kernel_rfl) spec_BoxName_de ((spec_BoxName_tie n text0).trans h)
noncomputable def spec_BoxOk_code : Code := match Try.f45.body with | some c => c | none => .skip
def spec_BoxOk_ann : Ann := fun id => none
def spec_BoxOk_Ls (n : Nat) : Nat → Option (LSpec T) := fun id => none
theorem spec_BoxOk_tie (n : Nat) (b0 : SBox) : evF (T := T) (Phi n 66) (spec_BoxOk_Ls n) spec_BoxOk_ann n Try.f45 (sg 45) [vA T 63 b0] spec_BoxOk_dec = spec_BoxOk n b0 := by kernel_rfl
theorem spec_BoxOk_lo (n : Nat) : LoopsOk (T := T) (Phi n 66) (spec_BoxOk_Ls n) spec_BoxOk_ann n spec_BoxOk_code := loopsOk_all (cs := []) (by kernel_rfl) trivial
theorem spec_BoxOk_ok (n : Nat) : EntOk Try.prog (ents n) (spec_BoxOk_ent n) := by
  intro hs ar y hg h
  replace h : spec_BoxOk_D n ar = some y := h
  unfold spec_BoxOk_D at h
  replace h := ocons_some h
  obtain ⟨a0, r0, rfl, h⟩ := h
  replace h := onil_some h
  obtain ⟨rfl, h⟩ := h
  obtain ⟨b0, qh0, h⟩ := obind_some h
  rw [argV_eq ok qh0]
  exact call_of (phiE_nat _ _) hs ok mixed Try.func45 (c := spec_BoxOk_code) (by kernel_rfl) (spec_BoxOk_lo n) (by kernel_rfl) (by kernel_rfl) (by kernel_rfl) spec_BoxOk_de ((spec_BoxOk_tie n b0).trans h)
noncomputable def spec_l12At_code : Code := match Try.f97.body with | some c => c | none => .skip
def spec_l12At_2_sv : List Sv := [.one (.arr 67), .one (.ptr 24 0 0), .one (.int .i64)]
def spec_l12At_2_so : List So := [.var [.int .i64, .int .i64, .int .i64]]
def spec_l12At_2_emb (c : List SStow × SSpot) (x : Int) : EVs T spec_l12At_2_sv × EOs T spec_l12At_2_so := ((c.1, (), x, ()), ((c.2.Bay, c.2.Row, c.2.Tier, ()), ()))
def spec_l12At_2_prj (y : EVs T spec_l12At_2_sv × EOs T spec_l12At_2_so) : (List SStow × SSpot) × Int := ((y.1.1, ((⟨y.2.1.1, y.2.1.2.1, y.2.1.2.2.1⟩ : SSpot) : SSpot)), (y.1.2.2.1))
def spec_l12At_2_b (n : Nat) {R : Type} (K : Ex → Sm.St T → Option R) (c : List SStow × SSpot) (x : Int) (J : Int → Option R) : Option R :=
  spec_l12At_L2 n (K (.exit 0) (stOf (T := T) [] [] [] [] () ())) (fun (y0 : Int) => K .ret (stOf (T := T) [4] [] [.one (.int .i64)] [] (y0, ()) ())) J c.1 x c.2
def spec_l12At_2_sp (n : Nat) : LSpec T := mkSpec T ⟨[], [0, 3, 5], [24]⟩ spec_l12At_2_sv spec_l12At_2_so (List SStow × SSpot) (Int) spec_l12At_2_emb spec_l12At_2_prj (spec_l12At_2_b n)
noncomputable def spec_l12At_2_c : Code := ((loopCodes spec_l12At_code)[0]?).getD .skip
def spec_l12At_ann : Ann := fun id => bif Nat.beq id 3000002 then some ⟨[], [], []⟩ else bif Nat.beq id 2000002 then some ⟨[], [4], []⟩ else none
def spec_l12At_Ls (n : Nat) : Nat → Option (LSpec T) := fun id => bif Nat.beq id 2 then some (spec_l12At_2_sp n) else none
theorem spec_l12At_2_le (n : Nat) : LoopEq (T := T) (Phi n 67) (spec_l12At_Ls n) spec_l12At_ann n spec_l12At_2_c (spec_l12At_2_sp n) := ⟨mkSpec_dec (fun y => rfl), fun c x => by kernel_rfl, fun K J c x => by kernel_rfl⟩
theorem spec_l12At_tie (n : Nat) (list0 : List SStow) (s1 : SSpot) : evF (T := T) (Phi n 67) (spec_l12At_Ls n) spec_l12At_ann n Try.f97 (sg 97) [vA T 44 list0, vA T 65 s1] spec_l12At_dec = spec_l12At n list0 s1 := by kernel_rfl
theorem spec_l12At_lo (n : Nat) : LoopsOk (T := T) (Phi n 67) (spec_l12At_Ls n) spec_l12At_ann n spec_l12At_code := loopsOk_all (cs := [spec_l12At_2_c]) (by kernel_rfl) ⟨⟨_, by kernel_rfl, spec_l12At_2_le n⟩, trivial⟩
theorem spec_l12At_ok (n : Nat) : EntOk Try.prog (ents n) (spec_l12At_ent n) := by
  intro hs ar y hg h
  replace h : spec_l12At_D n ar = some y := h
  unfold spec_l12At_D at h
  replace h := ocons_some h
  obtain ⟨a0, r0, rfl, h⟩ := h
  replace h := ocons_some h
  obtain ⟨a1, r1, rfl, h⟩ := h
  replace h := onil_some h
  obtain ⟨rfl, h⟩ := h
  obtain ⟨list0, qh0, h⟩ := obind_some h
  obtain ⟨s1, qh1, h⟩ := obind_some h
  rw [argV_eq ok qh0, argV_eq ok qh1]
  exact call_of (phiE_nat _ _) hs ok mixed Try.func97 (c := spec_l12At_code) (by kernel_rfl) (spec_l12At_lo n) (by kernel_rfl) (by kernel_rfl) (by kernel_rfl) spec_l12At_de ((spec_l12At_tie n list0 s1).trans h)
noncomputable def spec_l12Stack_code : Code := match Try.f125.body with | some c => c | none => .skip
def spec_l12Stack_3_sv : List Sv := [.one (.arr 67), .one (.int .i64), .one (.int .i64), .one (.own 3000000 63 false), .one (.int .i64)]
def spec_l12Stack_3_so : List So := [.arr 63 false]
def spec_l12Stack_3_emb (c : List SStow × Int × Int) (x : Int × List SBox) : EVs T spec_l12Stack_3_sv × EOs T spec_l12Stack_3_so := ((c.1, c.2.1, c.2.2, (), x.1, ()), (x.2, ()))
def spec_l12Stack_3_prj (y : EVs T spec_l12Stack_3_sv × EOs T spec_l12Stack_3_so) : (List SStow × Int × Int) × (Int × List SBox) := ((y.1.1, y.1.2.1, y.1.2.2.1), (y.1.2.2.2.2.1, y.2.1))
def spec_l12Stack_3_b (n : Nat) {R : Type} (K : Ex → Sm.St T → Option R) (c : List SStow × Int × Int) (x : Int × List SBox) (J : (Int × List SBox) → Option R) : Option R :=
  spec_l12Stack_L3 n (fun (y0 : List SBox) => K (.exit 0) (stOf (T := T) [7] [3000000] [.one (.own 3000000 63 false)] [.arr 63 false] ((), ()) (y0, ()))) (fun z0 z1 => J (z0, z1)) c.1 c.2.1 c.2.2 x.1 x.2
def spec_l12Stack_3_sp (n : Nat) : LSpec T := mkSpec T ⟨[((.reg 7), 3000000, 63)], [0, 1, 2, 7, 8], [3000000]⟩ spec_l12Stack_3_sv spec_l12Stack_3_so (List SStow × Int × Int) (Int × List SBox) spec_l12Stack_3_emb spec_l12Stack_3_prj (spec_l12Stack_3_b n)
noncomputable def spec_l12Stack_3_c : Code := ((loopCodes spec_l12Stack_code)[0]?).getD .skip
def spec_l12Stack_ann : Ann := fun id => bif Nat.beq id 3000003 then some ⟨[((.reg 7), 3000000, 63)], [7], [3000000]⟩ else none
def spec_l12Stack_Ls (n : Nat) : Nat → Option (LSpec T) := fun id => bif Nat.beq id 3 then some (spec_l12Stack_3_sp n) else none
theorem spec_l12Stack_3_le (n : Nat) : LoopEq (T := T) (Phi n 68) (spec_l12Stack_Ls n) spec_l12Stack_ann n spec_l12Stack_3_c (spec_l12Stack_3_sp n) := ⟨mkSpec_dec (fun y => rfl), fun c x => by kernel_rfl, fun K J c x => by kernel_rfl⟩
theorem spec_l12Stack_tie (n : Nat) (list0 : List SStow) (bay1 : Int) (row2 : Int) : evF (T := T) (Phi n 68) (spec_l12Stack_Ls n) spec_l12Stack_ann n Try.f125 (sg 125) [vA T 44 list0, vA T 3 bay1, vA T 3 row2] spec_l12Stack_dec = spec_l12Stack n list0 bay1 row2 := by kernel_rfl
theorem spec_l12Stack_lo (n : Nat) : LoopsOk (T := T) (Phi n 68) (spec_l12Stack_Ls n) spec_l12Stack_ann n spec_l12Stack_code := loopsOk_all (cs := [spec_l12Stack_3_c]) (by kernel_rfl) ⟨⟨_, by kernel_rfl, spec_l12Stack_3_le n⟩, trivial⟩
theorem spec_l12Stack_ok (n : Nat) : EntOk Try.prog (ents n) (spec_l12Stack_ent n) := by
  intro hs ar y hg h
  replace h : spec_l12Stack_D n ar = some y := h
  unfold spec_l12Stack_D at h
  replace h := ocons_some h
  obtain ⟨a0, r0, rfl, h⟩ := h
  replace h := ocons_some h
  obtain ⟨a1, r1, rfl, h⟩ := h
  replace h := ocons_some h
  obtain ⟨a2, r2, rfl, h⟩ := h
  replace h := onil_some h
  obtain ⟨rfl, h⟩ := h
  obtain ⟨list0, qh0, h⟩ := obind_some h
  obtain ⟨bay1, qh1, h⟩ := obind_some h
  obtain ⟨row2, qh2, h⟩ := obind_some h
  rw [argV_eq ok qh0, argV_eq ok qh1, argV_eq ok qh2]
  exact call_of (phiE_nat _ _) hs ok mixed Try.func125 (c := spec_l12Stack_code) (by kernel_rfl) (spec_l12Stack_lo n) (by kernel_rfl) (by kernel_rfl) (by kernel_rfl) spec_l12Stack_de ((spec_l12Stack_tie n list0 bay1 row2).trans h)
noncomputable def spec_StackOk_code : Code := match Try.f124.body with | some c => c | none => .skip
def spec_StackOk_3_sv : List Sv := [.one (.arr 63), .one (.int .i64), .one (.int .i64), .one (.int .i64)]
def spec_StackOk_3_so : List So := []
def spec_StackOk_3_emb (c : List SBox × Int) (x : Int × Int) : EVs T spec_StackOk_3_sv × EOs T spec_StackOk_3_so := ((c.1, c.2, x.1, x.2, ()), ())
def spec_StackOk_3_prj (y : EVs T spec_StackOk_3_sv × EOs T spec_StackOk_3_so) : (List SBox × Int) × (Int × Int) := ((y.1.1, y.1.2.1), (y.1.2.2.1, y.1.2.2.2.1))
def spec_StackOk_3_b (n : Nat) {R : Type} (K : Ex → Sm.St T → Option R) (c : List SBox × Int) (x : Int × Int) (J : (Int × Int) → Option R) : Option R :=
  spec_StackOk_L3 n (fun (y1 : Int) => K (.exit 0) (stOf (T := T) [1, 5] [] [.one (.int .i64), .one (.int .i64)] [] (c.2, y1, ()) ())) (fun (y0 : Bool) => K .ret (stOf (T := T) [4] [] [.one (.bool)] [] (y0, ()) ())) (fun z0 z1 => J (z0, z1)) c.1 c.2 x.1 x.2
def spec_StackOk_3_sp (n : Nat) : LSpec T := mkSpec T ⟨[], [0, 1, 5, 6], []⟩ spec_StackOk_3_sv spec_StackOk_3_so (List SBox × Int) (Int × Int) spec_StackOk_3_emb spec_StackOk_3_prj (spec_StackOk_3_b n)
noncomputable def spec_StackOk_3_c : Code := ((loopCodes spec_StackOk_code)[0]?).getD .skip
def spec_StackOk_ann : Ann := fun id => bif Nat.beq id 3000003 then some ⟨[], [1, 5], []⟩ else bif Nat.beq id 2000003 then some ⟨[], [4], []⟩ else none
def spec_StackOk_Ls (n : Nat) : Nat → Option (LSpec T) := fun id => bif Nat.beq id 3 then some (spec_StackOk_3_sp n) else none
theorem spec_StackOk_3_le (n : Nat) : LoopEq (T := T) (Phi n 69) (spec_StackOk_Ls n) spec_StackOk_ann n spec_StackOk_3_c (spec_StackOk_3_sp n) := ⟨mkSpec_dec (fun y => rfl), fun c x => by kernel_rfl, fun K J c x => by kernel_rfl⟩
theorem spec_StackOk_tie (n : Nat) (boxes0 : List SBox) (most1 : Int) : evF (T := T) (Phi n 69) (spec_StackOk_Ls n) spec_StackOk_ann n Try.f124 (sg 124) [vA T 49 boxes0, vA T 3 most1] spec_StackOk_dec = spec_StackOk n boxes0 most1 := by kernel_rfl
theorem spec_StackOk_lo (n : Nat) : LoopsOk (T := T) (Phi n 69) (spec_StackOk_Ls n) spec_StackOk_ann n spec_StackOk_code := loopsOk_all (cs := [spec_StackOk_3_c]) (by kernel_rfl) ⟨⟨_, by kernel_rfl, spec_StackOk_3_le n⟩, trivial⟩
theorem spec_StackOk_ok (n : Nat) : EntOk Try.prog (ents n) (spec_StackOk_ent n) := by
  intro hs ar y hg h
  replace h : spec_StackOk_D n ar = some y := h
  unfold spec_StackOk_D at h
  replace h := ocons_some h
  obtain ⟨a0, r0, rfl, h⟩ := h
  replace h := ocons_some h
  obtain ⟨a1, r1, rfl, h⟩ := h
  replace h := onil_some h
  obtain ⟨rfl, h⟩ := h
  obtain ⟨boxes0, qh0, h⟩ := obind_some h
  obtain ⟨most1, qh1, h⟩ := obind_some h
  rw [argV_eq ok qh0, argV_eq ok qh1]
  exact call_of (phiE_nat _ _) hs ok mixed Try.func124 (c := spec_StackOk_code) (by kernel_rfl) (spec_StackOk_lo n) (by kernel_rfl) (by kernel_rfl) (by kernel_rfl) spec_StackOk_de ((spec_StackOk_tie n boxes0 most1).trans h)
noncomputable def spec_l12Cold_code : Code := match Try.f126.body with | some c => c | none => .skip
def spec_l12Cold_3_sv : List Sv := [.one (.arr 67), .one (.int .i64), .one (.int .i64), .one (.int .i64)]
def spec_l12Cold_3_so : List So := []
def spec_l12Cold_3_emb (c : List SStow × Int) (x : Int × Int) : EVs T spec_l12Cold_3_sv × EOs T spec_l12Cold_3_so := ((c.1, c.2, x.1, x.2, ()), ())
def spec_l12Cold_3_prj (y : EVs T spec_l12Cold_3_sv × EOs T spec_l12Cold_3_so) : (List SStow × Int) × (Int × Int) := ((y.1.1, y.1.2.1), (y.1.2.2.1, y.1.2.2.2.1))
def spec_l12Cold_3_b (n : Nat) {R : Type} (K : Ex → Sm.St T → Option R) (c : List SStow × Int) (x : Int × Int) (J : (Int × Int) → Option R) : Option R :=
  spec_l12Cold_L3 n (fun (y0 : Int) => K (.exit 0) (stOf (T := T) [5] [] [.one (.int .i64)] [] (y0, ()) ())) (fun z0 z1 => J (z0, z1)) c.1 c.2 x.1 x.2
def spec_l12Cold_3_sp (n : Nat) : LSpec T := mkSpec T ⟨[], [0, 1, 5, 6], []⟩ spec_l12Cold_3_sv spec_l12Cold_3_so (List SStow × Int) (Int × Int) spec_l12Cold_3_emb spec_l12Cold_3_prj (spec_l12Cold_3_b n)
noncomputable def spec_l12Cold_3_c : Code := ((loopCodes spec_l12Cold_code)[0]?).getD .skip
def spec_l12Cold_ann : Ann := fun id => bif Nat.beq id 3000003 then some ⟨[], [5], []⟩ else none
def spec_l12Cold_Ls (n : Nat) : Nat → Option (LSpec T) := fun id => bif Nat.beq id 3 then some (spec_l12Cold_3_sp n) else none
theorem spec_l12Cold_3_le (n : Nat) : LoopEq (T := T) (Phi n 70) (spec_l12Cold_Ls n) spec_l12Cold_ann n spec_l12Cold_3_c (spec_l12Cold_3_sp n) := ⟨mkSpec_dec (fun y => rfl), fun c x => by kernel_rfl, fun K J c x => by kernel_rfl⟩
theorem spec_l12Cold_tie (n : Nat) (list0 : List SStow) (bay1 : Int) : evF (T := T) (Phi n 70) (spec_l12Cold_Ls n) spec_l12Cold_ann n Try.f126 (sg 126) [vA T 44 list0, vA T 3 bay1] spec_l12Cold_dec = spec_l12Cold n list0 bay1 := by kernel_rfl
theorem spec_l12Cold_lo (n : Nat) : LoopsOk (T := T) (Phi n 70) (spec_l12Cold_Ls n) spec_l12Cold_ann n spec_l12Cold_code := loopsOk_all (cs := [spec_l12Cold_3_c]) (by kernel_rfl) ⟨⟨_, by kernel_rfl, spec_l12Cold_3_le n⟩, trivial⟩
theorem spec_l12Cold_ok (n : Nat) : EntOk Try.prog (ents n) (spec_l12Cold_ent n) := by
  intro hs ar y hg h
  replace h : spec_l12Cold_D n ar = some y := h
  unfold spec_l12Cold_D at h
  replace h := ocons_some h
  obtain ⟨a0, r0, rfl, h⟩ := h
  replace h := ocons_some h
  obtain ⟨a1, r1, rfl, h⟩ := h
  replace h := onil_some h
  obtain ⟨rfl, h⟩ := h
  obtain ⟨list0, qh0, h⟩ := obind_some h
  obtain ⟨bay1, qh1, h⟩ := obind_some h
  rw [argV_eq ok qh0, argV_eq ok qh1]
  exact call_of (phiE_nat _ _) hs ok mixed Try.func126 (c := spec_l12Cold_code) (by kernel_rfl) (spec_l12Cold_lo n) (by kernel_rfl) (by kernel_rfl) (by kernel_rfl) spec_l12Cold_de ((spec_l12Cold_tie n list0 bay1).trans h)
noncomputable def spec_l11Spot_code : Code := match Try.f139.body with | some c => c | none => .skip
def spec_l11Spot_ann : Ann := fun id => none
def spec_l11Spot_Ls (n : Nat) : Nat → Option (LSpec T) := fun id => none
theorem spec_l11Spot_tie (n : Nat) (s0 : SSpot) : evF (T := T) (Phi n 71) (spec_l11Spot_Ls n) spec_l11Spot_ann n Try.f139 (sg 139) [vA T 65 s0] spec_l11Spot_dec = spec_l11Spot n s0 := by kernel_rfl
theorem spec_l11Spot_lo (n : Nat) : LoopsOk (T := T) (Phi n 71) (spec_l11Spot_Ls n) spec_l11Spot_ann n spec_l11Spot_code := loopsOk_all (cs := []) (by kernel_rfl) trivial
theorem spec_l11Spot_ok (n : Nat) : EntOk Try.prog (ents n) (spec_l11Spot_ent n) := by
  intro hs ar y hg h
  replace h : spec_l11Spot_D n ar = some y := h
  unfold spec_l11Spot_D at h
  replace h := ocons_some h
  obtain ⟨a0, r0, rfl, h⟩ := h
  replace h := onil_some h
  obtain ⟨rfl, h⟩ := h
  obtain ⟨s0, qh0, h⟩ := obind_some h
  rw [argV_eq ok qh0]
  exact call_of (phiE_nat _ _) hs ok mixed Try.func139 (c := spec_l11Spot_code) (by kernel_rfl) (spec_l11Spot_lo n) (by kernel_rfl) (by kernel_rfl) (by kernel_rfl) spec_l11Spot_de ((spec_l11Spot_tie n s0).trans h)
noncomputable def spec_l3Size_code : Code := match Try.f140.body with | some c => c | none => .skip
def spec_l3Size_ann : Ann := fun id => none
def spec_l3Size_Ls (n : Nat) : Nat → Option (LSpec T) := fun id => none
theorem spec_l3Size_tie (n : Nat) (x0 : Int) : evF (T := T) (Phi n 72) (spec_l3Size_Ls n) spec_l3Size_ann n Try.f140 (sg 140) [vA T 3 x0] spec_l3Size_dec = spec_l3Size n x0 := by kernel_rfl
theorem spec_l3Size_lo (n : Nat) : LoopsOk (T := T) (Phi n 72) (spec_l3Size_Ls n) spec_l3Size_ann n spec_l3Size_code := loopsOk_all (cs := []) (by kernel_rfl) trivial
theorem spec_l3Size_ok (n : Nat) : EntOk Try.prog (ents n) (spec_l3Size_ent n) := by
  intro hs ar y hg h
  replace h : spec_l3Size_D n ar = some y := h
  unfold spec_l3Size_D at h
  replace h := ocons_some h
  obtain ⟨a0, r0, rfl, h⟩ := h
  replace h := onil_some h
  obtain ⟨rfl, h⟩ := h
  obtain ⟨x0, qh0, h⟩ := obind_some h
  rw [argV_eq ok qh0]
  exact call_of (phiE_nat _ _) hs ok mixed Try.func140 (c := spec_l3Size_code) (by kernel_rfl) (spec_l3Size_lo n) (by kernel_rfl) (by kernel_rfl) (by kernel_rfl) spec_l3Size_de ((spec_l3Size_tie n x0).trans h)
noncomputable def spec_l1Least_code : Code := match Try.f147.body with | some c => c | none => .skip
def spec_l1Least_ann : Ann := fun id => none
def spec_l1Least_Ls (n : Nat) : Nat → Option (LSpec T) := fun id => none
theorem spec_l1Least_tie (n : Nat) (a0 : Int) (b1 : Int) : evF (T := T) (Phi n 73) (spec_l1Least_Ls n) spec_l1Least_ann n Try.f147 (sg 147) [vA T 3 a0, vA T 3 b1] spec_l1Least_dec = spec_l1Least n a0 b1 := by kernel_rfl
theorem spec_l1Least_lo (n : Nat) : LoopsOk (T := T) (Phi n 73) (spec_l1Least_Ls n) spec_l1Least_ann n spec_l1Least_code := loopsOk_all (cs := []) (by kernel_rfl) trivial
theorem spec_l1Least_ok (n : Nat) : EntOk Try.prog (ents n) (spec_l1Least_ent n) := by
  intro hs ar y hg h
  replace h : spec_l1Least_D n ar = some y := h
  unfold spec_l1Least_D at h
  replace h := ocons_some h
  obtain ⟨a0, r0, rfl, h⟩ := h
  replace h := ocons_some h
  obtain ⟨a1, r1, rfl, h⟩ := h
  replace h := onil_some h
  obtain ⟨rfl, h⟩ := h
  obtain ⟨a0, qh0, h⟩ := obind_some h
  obtain ⟨b1, qh1, h⟩ := obind_some h
  rw [argV_eq ok qh0, argV_eq ok qh1]
  exact call_of (phiE_nat _ _) hs ok mixed Try.func147 (c := spec_l1Least_code) (by kernel_rfl) (spec_l1Least_lo n) (by kernel_rfl) (by kernel_rfl) (by kernel_rfl) spec_l1Least_de ((spec_l1Least_tie n a0 b1).trans h)
noncomputable def spec_Apart_code : Code := match Try.f141.body with | some c => c | none => .skip
def spec_Apart_ann : Ann := fun id => none
def spec_Apart_Ls (n : Nat) : Nat → Option (LSpec T) := fun id => none
theorem spec_Apart_tie (n : Nat) (a0 : Int) (b1 : Int) : evF (T := T) (Phi n 74) (spec_Apart_Ls n) spec_Apart_ann n Try.f141 (sg 141) [vA T 3 a0, vA T 3 b1] spec_Apart_dec = spec_Apart n a0 b1 := by kernel_rfl
theorem spec_Apart_lo (n : Nat) : LoopsOk (T := T) (Phi n 74) (spec_Apart_Ls n) spec_Apart_ann n spec_Apart_code := loopsOk_all (cs := []) (by kernel_rfl) trivial
theorem spec_Apart_ok (n : Nat) : EntOk Try.prog (ents n) (spec_Apart_ent n) := by
  intro hs ar y hg h
  replace h : spec_Apart_D n ar = some y := h
  unfold spec_Apart_D at h
  replace h := ocons_some h
  obtain ⟨a0, r0, rfl, h⟩ := h
  replace h := ocons_some h
  obtain ⟨a1, r1, rfl, h⟩ := h
  replace h := onil_some h
  obtain ⟨rfl, h⟩ := h
  obtain ⟨a0, qh0, h⟩ := obind_some h
  obtain ⟨b1, qh1, h⟩ := obind_some h
  rw [argV_eq ok qh0, argV_eq ok qh1]
  exact call_of (phiE_nat _ _) hs ok mixed Try.func141 (c := spec_Apart_code) (by kernel_rfl) (spec_Apart_lo n) (by kernel_rfl) (by kernel_rfl) (by kernel_rfl) spec_Apart_de ((spec_Apart_tie n a0 b1).trans h)
noncomputable def spec_KeepsApart_code : Code := match Try.f127.body with | some c => c | none => .skip
def spec_KeepsApart_ann : Ann := fun id => none
def spec_KeepsApart_Ls (n : Nat) : Nat → Option (LSpec T) := fun id => none
theorem spec_KeepsApart_tie (n : Nat) (a0 : SBox) (sa1 : SSpot) (b2 : SBox) (sb3 : SSpot) : evF (T := T) (Phi n 75) (spec_KeepsApart_Ls n) spec_KeepsApart_ann n Try.f127 (sg 127) [vA T 63 a0, vA T 65 sa1, vA T 63 b2, vA T 65 sb3] spec_KeepsApart_dec = spec_KeepsApart n a0 sa1 b2 sb3 := by kernel_rfl
theorem spec_KeepsApart_lo (n : Nat) : LoopsOk (T := T) (Phi n 75) (spec_KeepsApart_Ls n) spec_KeepsApart_ann n spec_KeepsApart_code := loopsOk_all (cs := []) (by kernel_rfl) trivial
theorem spec_KeepsApart_ok (n : Nat) : EntOk Try.prog (ents n) (spec_KeepsApart_ent n) := by
  intro hs ar y hg h
  replace h : spec_KeepsApart_D n ar = some y := h
  unfold spec_KeepsApart_D at h
  replace h := ocons_some h
  obtain ⟨a0, r0, rfl, h⟩ := h
  replace h := ocons_some h
  obtain ⟨a1, r1, rfl, h⟩ := h
  replace h := ocons_some h
  obtain ⟨a2, r2, rfl, h⟩ := h
  replace h := ocons_some h
  obtain ⟨a3, r3, rfl, h⟩ := h
  replace h := onil_some h
  obtain ⟨rfl, h⟩ := h
  obtain ⟨a0, qh0, h⟩ := obind_some h
  obtain ⟨sa1, qh1, h⟩ := obind_some h
  obtain ⟨b2, qh2, h⟩ := obind_some h
  obtain ⟨sb3, qh3, h⟩ := obind_some h
  rw [argV_eq ok qh0, argV_eq ok qh1, argV_eq ok qh2, argV_eq ok qh3]
  exact call_of (phiE_nat _ _) hs ok mixed Try.func127 (c := spec_KeepsApart_code) (by kernel_rfl) (spec_KeepsApart_lo n) (by kernel_rfl) (by kernel_rfl) (by kernel_rfl) spec_KeepsApart_de ((spec_KeepsApart_tie n a0 sa1 b2 sb3).trans h)
noncomputable def spec_l12Fails_code : Code := match Try.f116.body with | some c => c | none => .skip
def spec_l12Fails_8_sv : List Sv := [.one (.arr 67), .one (.int .i64), .one (.ptr 72 0 0), .one (.ptr 80 0 0), .one (.int .i64)]
def spec_l12Fails_8_so : List So := [.var [.str, .int .i64, .int .i64, .bool, .int .i64, .int .i64, .int .i64, .int .i64, .int .i64], .var [.int .i64, .int .i64, .int .i64]]
def spec_l12Fails_8_emb (c : List SStow × Int × SStow × SSpot) (x : Int) : EVs T spec_l12Fails_8_sv × EOs T spec_l12Fails_8_so := ((c.1, c.2.1, (), (), x, ()), ((c.2.2.1.Box.Name, c.2.2.1.Box.Weight, c.2.2.1.Box.Class, c.2.2.1.Box.Cold, c.2.2.1.Box.From, c.2.2.1.Box.To, c.2.2.1.Spot.Bay, c.2.2.1.Spot.Row, c.2.2.1.Spot.Tier, ()), (c.2.2.2.Bay, c.2.2.2.Row, c.2.2.2.Tier, ()), ()))
def spec_l12Fails_8_prj (y : EVs T spec_l12Fails_8_sv × EOs T spec_l12Fails_8_so) : (List SStow × Int × SStow × SSpot) × Int := ((y.1.1, y.1.2.1, ((⟨(⟨y.2.1.1, y.2.1.2.1, y.2.1.2.2.1, y.2.1.2.2.2.1, y.2.1.2.2.2.2.1, y.2.1.2.2.2.2.2.1⟩ : SBox), (⟨y.2.1.2.2.2.2.2.2.1, y.2.1.2.2.2.2.2.2.2.1, y.2.1.2.2.2.2.2.2.2.2.1⟩ : SSpot)⟩ : SStow) : SStow), ((⟨y.2.2.1.1, y.2.2.1.2.1, y.2.2.1.2.2.1⟩ : SSpot) : SSpot)), (y.1.2.2.2.2.1))
def spec_l12Fails_8_b (n : Nat) {R : Type} (K : Ex → Sm.St T → Option R) (c : List SStow × Int × SStow × SSpot) (x : Int) (J : Int → Option R) : Option R :=
  spec_l12Fails_L8 n (K (.exit 1) (stOf (T := T) [] [] [] [] () ())) (fun (y0 : Bool) => K .ret (stOf (T := T) [8] [] [.one (.bool)] [] (y0, ()) ())) J c.1 c.2.1 x c.2.2.1 c.2.2.2
def spec_l12Fails_8_sp (n : Nat) : LSpec T := mkSpec T ⟨[], [1, 2, 9, 10, 11], [72, 80]⟩ spec_l12Fails_8_sv spec_l12Fails_8_so (List SStow × Int × SStow × SSpot) (Int) spec_l12Fails_8_emb spec_l12Fails_8_prj (spec_l12Fails_8_b n)
noncomputable def spec_l12Fails_8_c : Code := ((loopCodes spec_l12Fails_code)[0]?).getD .skip
def spec_l12Fails_22_sv : List Sv := [.one (.arr 67), .one (.int .i64), .one (.ptr 72 0 0), .one (.ptr 80 0 0), .one (.int .i64)]
def spec_l12Fails_22_so : List So := [.var [.str, .int .i64, .int .i64, .bool, .int .i64, .int .i64, .int .i64, .int .i64, .int .i64], .var [.int .i64, .int .i64, .int .i64]]
def spec_l12Fails_22_emb (c : List SStow × Int × SStow × SSpot) (x : Int) : EVs T spec_l12Fails_22_sv × EOs T spec_l12Fails_22_so := ((c.1, c.2.1, (), (), x, ()), ((c.2.2.1.Box.Name, c.2.2.1.Box.Weight, c.2.2.1.Box.Class, c.2.2.1.Box.Cold, c.2.2.1.Box.From, c.2.2.1.Box.To, c.2.2.1.Spot.Bay, c.2.2.1.Spot.Row, c.2.2.1.Spot.Tier, ()), (c.2.2.2.Bay, c.2.2.2.Row, c.2.2.2.Tier, ()), ()))
def spec_l12Fails_22_prj (y : EVs T spec_l12Fails_22_sv × EOs T spec_l12Fails_22_so) : (List SStow × Int × SStow × SSpot) × Int := ((y.1.1, y.1.2.1, ((⟨(⟨y.2.1.1, y.2.1.2.1, y.2.1.2.2.1, y.2.1.2.2.2.1, y.2.1.2.2.2.2.1, y.2.1.2.2.2.2.2.1⟩ : SBox), (⟨y.2.1.2.2.2.2.2.2.1, y.2.1.2.2.2.2.2.2.2.1, y.2.1.2.2.2.2.2.2.2.2.1⟩ : SSpot)⟩ : SStow) : SStow), ((⟨y.2.2.1.1, y.2.2.1.2.1, y.2.2.1.2.2.1⟩ : SSpot) : SSpot)), (y.1.2.2.2.2.1))
def spec_l12Fails_22_b (n : Nat) {R : Type} (K : Ex → Sm.St T → Option R) (c : List SStow × Int × SStow × SSpot) (x : Int) (J : Int → Option R) : Option R :=
  spec_l12Fails_L22 n (K (.exit 3) (stOf (T := T) [] [] [] [] () ())) (fun (y0 : Bool) => K .ret (stOf (T := T) [8] [] [.one (.bool)] [] (y0, ()) ())) J c.1 c.2.1 x c.2.2.1 c.2.2.2
def spec_l12Fails_22_sp (n : Nat) : LSpec T := mkSpec T ⟨[], [1, 2, 9, 10, 12], [72, 80]⟩ spec_l12Fails_22_sv spec_l12Fails_22_so (List SStow × Int × SStow × SSpot) (Int) spec_l12Fails_22_emb spec_l12Fails_22_prj (spec_l12Fails_22_b n)
noncomputable def spec_l12Fails_22_c : Code := ((loopCodes spec_l12Fails_code)[1]?).getD .skip
def spec_l12Fails_ann : Ann := fun id => bif Nat.beq id 4000008 then some ⟨[], [], []⟩ else bif Nat.beq id 2000008 then some ⟨[], [8], []⟩ else bif Nat.beq id 6000022 then some ⟨[], [], []⟩ else bif Nat.beq id 2000022 then some ⟨[], [8], []⟩ else none
def spec_l12Fails_Ls (n : Nat) : Nat → Option (LSpec T) := fun id => bif Nat.beq id 8 then some (spec_l12Fails_8_sp n) else bif Nat.beq id 22 then some (spec_l12Fails_22_sp n) else none
theorem spec_l12Fails_8_le (n : Nat) : LoopEq (T := T) (Phi n 76) (spec_l12Fails_Ls n) spec_l12Fails_ann n spec_l12Fails_8_c (spec_l12Fails_8_sp n) := ⟨mkSpec_dec (fun y => rfl), fun c x => by kernel_rfl, fun K J c x => by kernel_rfl⟩
theorem spec_l12Fails_22_le (n : Nat) : LoopEq (T := T) (Phi n 76) (spec_l12Fails_Ls n) spec_l12Fails_ann n spec_l12Fails_22_c (spec_l12Fails_22_sp n) := ⟨mkSpec_dec (fun y => rfl), fun c x => by kernel_rfl, fun K J c x => by kernel_rfl⟩
theorem spec_l12Fails_tie (n : Nat) (bays0 : List SHatch) (list1 : List SStow) (i2 : Int) (code3 : Int) : evF (T := T) (Phi n 76) (spec_l12Fails_Ls n) spec_l12Fails_ann n Try.f116 (sg 116) [vA T 47 bays0, vA T 44 list1, vA T 3 i2, vA T 3 code3] spec_l12Fails_dec = spec_l12Fails n bays0 list1 i2 code3 := by kernel_rfl
theorem spec_l12Fails_lo (n : Nat) : LoopsOk (T := T) (Phi n 76) (spec_l12Fails_Ls n) spec_l12Fails_ann n spec_l12Fails_code := loopsOk_all (cs := [spec_l12Fails_8_c, spec_l12Fails_22_c]) (by kernel_rfl) ⟨⟨_, by kernel_rfl, spec_l12Fails_8_le n⟩, ⟨_, by kernel_rfl, spec_l12Fails_22_le n⟩, trivial⟩
theorem spec_l12Fails_ok (n : Nat) : EntOk Try.prog (ents n) (spec_l12Fails_ent n) := by
  intro hs ar y hg h
  replace h : spec_l12Fails_D n ar = some y := h
  unfold spec_l12Fails_D at h
  replace h := ocons_some h
  obtain ⟨a0, r0, rfl, h⟩ := h
  replace h := ocons_some h
  obtain ⟨a1, r1, rfl, h⟩ := h
  replace h := ocons_some h
  obtain ⟨a2, r2, rfl, h⟩ := h
  replace h := ocons_some h
  obtain ⟨a3, r3, rfl, h⟩ := h
  replace h := onil_some h
  obtain ⟨rfl, h⟩ := h
  obtain ⟨bays0, qh0, h⟩ := obind_some h
  obtain ⟨list1, qh1, h⟩ := obind_some h
  obtain ⟨i2, qh2, h⟩ := obind_some h
  obtain ⟨code3, qh3, h⟩ := obind_some h
  rw [argV_eq ok qh0, argV_eq ok qh1, argV_eq ok qh2, argV_eq ok qh3]
  exact call_of (phiE_nat _ _) hs ok mixed Try.func116 (c := spec_l12Fails_code) (by kernel_rfl) (spec_l12Fails_lo n) (by kernel_rfl) (by kernel_rfl) (by kernel_rfl) spec_l12Fails_de ((spec_l12Fails_tie n bays0 list1 i2 code3).trans h)
noncomputable def spec_StowCode_code : Code := match Try.f95.body with | some c => c | none => .skip
def spec_StowCode_4_sv : List Sv := [.one (.arr 96), .one (.arr 67), .one (.int .i64)]
def spec_StowCode_4_so : List So := []
def spec_StowCode_4_emb (c : List SHatch × List SStow) (x : Int) : EVs T spec_StowCode_4_sv × EOs T spec_StowCode_4_so := ((c.1, c.2, x, ()), ())
def spec_StowCode_4_prj (y : EVs T spec_StowCode_4_sv × EOs T spec_StowCode_4_so) : (List SHatch × List SStow) × Int := ((y.1.1, y.1.2.1), (y.1.2.2.1))
def spec_StowCode_4_b (n : Nat) {R : Type} (K : Ex → Sm.St T → Option R) (c : List SHatch × List SStow) (x : Int) (J : Int → Option R) : Option R :=
  spec_StowCode_L4 n (K (.exit 0) (stOf (T := T) [] [] [] [] () ())) (fun (y0 : Int) (y1 : Int) => K .ret (stOf (T := T) [4, 5] [] [.one (.int .i64), .one (.int .i64)] [] (y0, y1, ()) ())) J c.1 c.2 x
def spec_StowCode_4_sp (n : Nat) : LSpec T := mkSpec T ⟨[], [0, 1, 6], []⟩ spec_StowCode_4_sv spec_StowCode_4_so (List SHatch × List SStow) (Int) spec_StowCode_4_emb spec_StowCode_4_prj (spec_StowCode_4_b n)
noncomputable def spec_StowCode_4_c : Code := ((loopCodes spec_StowCode_code)[0]?).getD .skip
def spec_StowCode_7_sv : List Sv := [.one (.arr 96), .one (.arr 67), .one (.int .i64), .one (.int .i64)]
def spec_StowCode_7_so : List So := []
def spec_StowCode_7_emb (c : List SHatch × List SStow × Int) (x : Int) : EVs T spec_StowCode_7_sv × EOs T spec_StowCode_7_so := ((c.1, c.2.1, c.2.2, x, ()), ())
def spec_StowCode_7_prj (y : EVs T spec_StowCode_7_sv × EOs T spec_StowCode_7_so) : (List SHatch × List SStow × Int) × Int := ((y.1.1, y.1.2.1, y.1.2.2.1), (y.1.2.2.2.1))
def spec_StowCode_7_b (n : Nat) {R : Type} (K : Ex → Sm.St T → Option R) (c : List SHatch × List SStow × Int) (x : Int) (J : Int → Option R) : Option R :=
  spec_StowCode_L7 n (K (.exit 2) (stOf (T := T) [0, 1, 6] [] [.one (.arr 96), .one (.arr 67), .one (.int .i64)] [] (c.1, c.2.1, c.2.2, ()) ())) (fun (y1 : Int) => K .ret (stOf (T := T) [4, 5] [] [.one (.int .i64), .one (.int .i64)] [] (c.2.2, y1, ()) ())) J c.1 c.2.1 c.2.2 x
def spec_StowCode_7_sp (n : Nat) : LSpec T := mkSpec T ⟨[], [0, 1, 6, 7], []⟩ spec_StowCode_7_sv spec_StowCode_7_so (List SHatch × List SStow × Int) (Int) spec_StowCode_7_emb spec_StowCode_7_prj (spec_StowCode_7_b n)
noncomputable def spec_StowCode_7_c : Code := ((loopCodes spec_StowCode_code)[1]?).getD .skip
def spec_StowCode_ann : Ann := fun id => bif Nat.beq id 3000004 then some ⟨[], [], []⟩ else bif Nat.beq id 2000004 then some ⟨[], [4, 5], []⟩ else bif Nat.beq id 5000007 then some ⟨[], [0, 1, 6], []⟩ else bif Nat.beq id 2000007 then some ⟨[], [4, 5], []⟩ else none
def spec_StowCode_Ls (n : Nat) : Nat → Option (LSpec T) := fun id => bif Nat.beq id 4 then some (spec_StowCode_4_sp n) else bif Nat.beq id 7 then some (spec_StowCode_7_sp n) else none
theorem spec_StowCode_4_le (n : Nat) : LoopEq (T := T) (Phi n 77) (spec_StowCode_Ls n) spec_StowCode_ann n spec_StowCode_4_c (spec_StowCode_4_sp n) := ⟨mkSpec_dec (fun y => rfl), fun c x => by kernel_rfl, fun K J c x => by kernel_rfl⟩
theorem spec_StowCode_7_le (n : Nat) : LoopEq (T := T) (Phi n 77) (spec_StowCode_Ls n) spec_StowCode_ann n spec_StowCode_7_c (spec_StowCode_7_sp n) := ⟨mkSpec_dec (fun y => rfl), fun c x => by kernel_rfl, fun K J c x => by kernel_rfl⟩
theorem spec_StowCode_tie (n : Nat) (bays0 : List SHatch) (list1 : List SStow) : evF (T := T) (Phi n 77) (spec_StowCode_Ls n) spec_StowCode_ann n Try.f95 (sg 95) [vA T 47 bays0, vA T 44 list1] spec_StowCode_dec = spec_StowCode n bays0 list1 := by kernel_rfl
theorem spec_StowCode_lo (n : Nat) : LoopsOk (T := T) (Phi n 77) (spec_StowCode_Ls n) spec_StowCode_ann n spec_StowCode_code := loopsOk_all (cs := [spec_StowCode_4_c, spec_StowCode_7_c]) (by kernel_rfl) ⟨⟨_, by kernel_rfl, spec_StowCode_4_le n⟩, ⟨_, by kernel_rfl, spec_StowCode_7_le n⟩, trivial⟩
theorem spec_StowCode_ok (n : Nat) : EntOk Try.prog (ents n) (spec_StowCode_ent n) := by
  intro hs ar y hg h
  replace h : spec_StowCode_D n ar = some y := h
  unfold spec_StowCode_D at h
  replace h := ocons_some h
  obtain ⟨a0, r0, rfl, h⟩ := h
  replace h := ocons_some h
  obtain ⟨a1, r1, rfl, h⟩ := h
  replace h := onil_some h
  obtain ⟨rfl, h⟩ := h
  obtain ⟨bays0, qh0, h⟩ := obind_some h
  obtain ⟨list1, qh1, h⟩ := obind_some h
  rw [argV_eq ok qh0, argV_eq ok qh1]
  exact call_of (phiE_nat _ _) hs ok mixed Try.func95 (c := spec_StowCode_code) (by kernel_rfl) (spec_StowCode_lo n) (by kernel_rfl) (by kernel_rfl) (by kernel_rfl) spec_StowCode_de ((spec_StowCode_tie n bays0 list1).trans h)
noncomputable def spec_l12Over_code : Code := match Try.f96.body with | some c => c | none => .skip
def spec_l12Over_3_sv : List Sv := [.one (.arr 67), .one (.int .i64), .one (.int .i64)]
def spec_l12Over_3_so : List So := []
def spec_l12Over_3_emb (c : List SStow) (x : Int × Int) : EVs T spec_l12Over_3_sv × EOs T spec_l12Over_3_so := ((c, x.1, x.2, ()), ())
def spec_l12Over_3_prj (y : EVs T spec_l12Over_3_sv × EOs T spec_l12Over_3_so) : List SStow × (Int × Int) := ((y.1.1), (y.1.2.1, y.1.2.2.1))
def spec_l12Over_3_b (n : Nat) {R : Type} (K : Ex → Sm.St T → Option R) (c : List SStow) (x : Int × Int) (J : (Int × Int) → Option R) : Option R :=
  spec_l12Over_L3 n (fun (y0 : Int) => K (.exit 0) (stOf (T := T) [3] [] [.one (.int .i64)] [] (y0, ()) ())) (fun z0 z1 => J (z0, z1)) c x.1 x.2
def spec_l12Over_3_sp (n : Nat) : LSpec T := mkSpec T ⟨[], [0, 3, 4], []⟩ spec_l12Over_3_sv spec_l12Over_3_so (List SStow) (Int × Int) spec_l12Over_3_emb spec_l12Over_3_prj (spec_l12Over_3_b n)
noncomputable def spec_l12Over_3_c : Code := ((loopCodes spec_l12Over_code)[0]?).getD .skip
def spec_l12Over_6_sv : List Sv := [.one (.arr 67), .one (.int .i64), .one (.int .i64), .one (.int .i64)]
def spec_l12Over_6_so : List So := []
def spec_l12Over_6_emb (c : List SStow × Int) (x : Int × Int) : EVs T spec_l12Over_6_sv × EOs T spec_l12Over_6_so := ((c.1, x.1, c.2, x.2, ()), ())
def spec_l12Over_6_prj (y : EVs T spec_l12Over_6_sv × EOs T spec_l12Over_6_so) : (List SStow × Int) × (Int × Int) := ((y.1.1, y.1.2.2.1), (y.1.2.1, y.1.2.2.2.1))
def spec_l12Over_6_b (n : Nat) {R : Type} (K : Ex → Sm.St T → Option R) (c : List SStow × Int) (x : Int × Int) (J : (Int × Int) → Option R) : Option R :=
  spec_l12Over_L6 n (fun (y1 : Int) => K (.exit 2) (stOf (T := T) [0, 3, 4] [] [.one (.arr 67), .one (.int .i64), .one (.int .i64)] [] (c.1, y1, c.2, ()) ())) (fun z0 z1 => J (z0, z1)) c.1 x.1 c.2 x.2
def spec_l12Over_6_sp (n : Nat) : LSpec T := mkSpec T ⟨[], [0, 3, 4, 5], []⟩ spec_l12Over_6_sv spec_l12Over_6_so (List SStow × Int) (Int × Int) spec_l12Over_6_emb spec_l12Over_6_prj (spec_l12Over_6_b n)
noncomputable def spec_l12Over_6_c : Code := ((loopCodes spec_l12Over_code)[1]?).getD .skip
def spec_l12Over_ann : Ann := fun id => bif Nat.beq id 3000003 then some ⟨[], [3], []⟩ else bif Nat.beq id 5000006 then some ⟨[], [0, 3, 4], []⟩ else none
def spec_l12Over_Ls (n : Nat) : Nat → Option (LSpec T) := fun id => bif Nat.beq id 3 then some (spec_l12Over_3_sp n) else bif Nat.beq id 6 then some (spec_l12Over_6_sp n) else none
theorem spec_l12Over_3_le (n : Nat) : LoopEq (T := T) (Phi n 78) (spec_l12Over_Ls n) spec_l12Over_ann n spec_l12Over_3_c (spec_l12Over_3_sp n) := ⟨mkSpec_dec (fun y => rfl), fun c x => by kernel_rfl, fun K J c x => by kernel_rfl⟩
theorem spec_l12Over_6_le (n : Nat) : LoopEq (T := T) (Phi n 78) (spec_l12Over_Ls n) spec_l12Over_ann n spec_l12Over_6_c (spec_l12Over_6_sp n) := ⟨mkSpec_dec (fun y => rfl), fun c x => by kernel_rfl, fun K J c x => by kernel_rfl⟩
theorem spec_l12Over_tie (n : Nat) (list0 : List SStow) : evF (T := T) (Phi n 78) (spec_l12Over_Ls n) spec_l12Over_ann n Try.f96 (sg 96) [vA T 44 list0] spec_l12Over_dec = spec_l12Over n list0 := by kernel_rfl
theorem spec_l12Over_lo (n : Nat) : LoopsOk (T := T) (Phi n 78) (spec_l12Over_Ls n) spec_l12Over_ann n spec_l12Over_code := loopsOk_all (cs := [spec_l12Over_3_c, spec_l12Over_6_c]) (by kernel_rfl) ⟨⟨_, by kernel_rfl, spec_l12Over_3_le n⟩, ⟨_, by kernel_rfl, spec_l12Over_6_le n⟩, trivial⟩
theorem spec_l12Over_ok (n : Nat) : EntOk Try.prog (ents n) (spec_l12Over_ent n) := by
  intro hs ar y hg h
  replace h : spec_l12Over_D n ar = some y := h
  unfold spec_l12Over_D at h
  replace h := ocons_some h
  obtain ⟨a0, r0, rfl, h⟩ := h
  replace h := onil_some h
  obtain ⟨rfl, h⟩ := h
  obtain ⟨list0, qh0, h⟩ := obind_some h
  rw [argV_eq ok qh0]
  exact call_of (phiE_nat _ _) hs ok mixed Try.func96 (c := spec_l12Over_code) (by kernel_rfl) (spec_l12Over_lo n) (by kernel_rfl) (by kernel_rfl) (by kernel_rfl) spec_l12Over_de ((spec_l12Over_tie n list0).trans h)
abbrev spec_l12Seek_Phi (n : Nat) (rc : List SHatch → List SBox → List SSpot → List SStow → List SStow → Bool → Option (List SStow × Bool)) {R : Type} (g : Nat) (ar : List (A T)) (K : Res T → Option R) : Option R := PhiR (T := T) (PhiE (ents n) 79) 46 [] (spec_l12Seek_Dr rc) spec_l12Seek_enc g ar K
noncomputable def spec_l12Seek_code : Code := match Try.f46.body with | some c => c | none => .skip
def spec_l12Seek_7_sv : List Sv := [.one (.arr 96), .one (.arr 63), .one (.arr 65), .one (.arr 67), .one (.own 3000000 67 false), .one (.bool), .one (.int .i64)]
def spec_l12Seek_7_so : List So := [.arr 67 false]
def spec_l12Seek_7_emb (c : List SHatch × List SBox × List SSpot × List SStow) (x : Bool × Int × List SStow) : EVs T spec_l12Seek_7_sv × EOs T spec_l12Seek_7_so := ((c.1, c.2.1, c.2.2.1, c.2.2.2, (), x.1, x.2.1, ()), (x.2.2, ()))
def spec_l12Seek_7_prj (y : EVs T spec_l12Seek_7_sv × EOs T spec_l12Seek_7_so) : (List SHatch × List SBox × List SSpot × List SStow) × (Bool × Int × List SStow) := ((y.1.1, y.1.2.1, y.1.2.2.1, y.1.2.2.2.1), (y.1.2.2.2.2.2.1, y.1.2.2.2.2.2.2.1, y.2.1))
def spec_l12Seek_7_b (n : Nat) (rc : List SHatch → List SBox → List SSpot → List SStow → List SStow → Bool → Option (List SStow × Bool)) {R : Type} (K : Ex → Sm.St T → Option R) (c : List SHatch × List SBox × List SSpot × List SStow) (x : Bool × Int × List SStow) (J : (Bool × Int × List SStow) → Option R) : Option R :=
  spec_l12Seek_L7 n rc (fun (y0 : Bool) (y1 : List SStow) => K (.exit 0) (stOf (T := T) [4, 5] [3000000] [.one (.own 3000000 67 false), .one (.bool)] [.arr 67 false] ((), y0, ()) (y1, ()))) (fun z0 z1 z2 => J (z0, z1, z2)) c.1 c.2.1 c.2.2.1 c.2.2.2 x.1 x.2.1 x.2.2
def spec_l12Seek_7_sp (n : Nat) (rc : List SHatch → List SBox → List SSpot → List SStow → List SStow → Bool → Option (List SStow × Bool)) : LSpec T := mkSpec T ⟨[((.reg 4), 3000000, 67)], [0, 1, 2, 3, 4, 5, 16], [3000000]⟩ spec_l12Seek_7_sv spec_l12Seek_7_so (List SHatch × List SBox × List SSpot × List SStow) (Bool × Int × List SStow) spec_l12Seek_7_emb spec_l12Seek_7_prj (spec_l12Seek_7_b n rc)
noncomputable def spec_l12Seek_7_c : Code := ((loopCodes spec_l12Seek_code)[0]?).getD .skip
def spec_l12Seek_ann : Ann := fun id => bif Nat.beq id 3000007 then some ⟨[((.reg 4), 3000000, 67)], [4, 5], [3000000]⟩ else none
def spec_l12Seek_Ls (n : Nat) (rc : List SHatch → List SBox → List SSpot → List SStow → List SStow → Bool → Option (List SStow × Bool)) : Nat → Option (LSpec T) := fun id => bif Nat.beq id 7 then some (spec_l12Seek_7_sp n rc) else none
theorem spec_l12Seek_7_le (n : Nat) (rc : List SHatch → List SBox → List SSpot → List SStow → List SStow → Bool → Option (List SStow × Bool)) : LoopEq (T := T) (spec_l12Seek_Phi n rc) (spec_l12Seek_Ls n rc) spec_l12Seek_ann n spec_l12Seek_7_c (spec_l12Seek_7_sp n rc) := ⟨mkSpec_dec (fun y => rfl), fun c x => by kernel_rfl, fun K J c x => by kernel_rfl⟩
theorem spec_l12Seek_tie (n : Nat) (rc : List SHatch → List SBox → List SSpot → List SStow → List SStow → Bool → Option (List SStow × Bool)) (bays0 : List SHatch) (boxes1 : List SBox) (spots2 : List SSpot) (so3 : List SStow) (best4 : List SStow) (has5 : Bool) : evF (T := T) (spec_l12Seek_Phi n rc) (spec_l12Seek_Ls n rc) spec_l12Seek_ann n Try.f46 (sg 46) [vA T 47 bays0, vA T 49 boxes1, vA T 94 spots2, vA T 44 so3, vA T 44 best4, vA T 4 has5] spec_l12Seek_dec = spec_l12Seek_b n rc bays0 boxes1 spots2 so3 best4 has5 := by kernel_rfl
theorem spec_l12Seek_lo (n : Nat) (rc : List SHatch → List SBox → List SSpot → List SStow → List SStow → Bool → Option (List SStow × Bool)) : LoopsOk (T := T) (spec_l12Seek_Phi n rc) (spec_l12Seek_Ls n rc) spec_l12Seek_ann n spec_l12Seek_code := loopsOk_all (cs := [spec_l12Seek_7_c]) (by kernel_rfl) ⟨⟨_, by kernel_rfl, spec_l12Seek_7_le n rc⟩, trivial⟩
theorem spec_l12Seek_okr (n : Nat) (hs : SemOk (PhiE (T := T) (ents n) 79) (CallOk Try.prog T)) : ∀ m ar y, natsEq (fnsOf ar) [] = true → spec_l12Seek_Dr (spec_l12Seek_r n m) ar = some y → CallOk Try.prog T 46 ar (spec_l12Seek_enc y) := by
  intro m
  induction m with
  | zero =>
    intro ar y hg h
    unfold spec_l12Seek_Dr at h
    replace h := ocons_some h
    obtain ⟨a0, r0, rfl, h⟩ := h
    replace h := ocons_some h
    obtain ⟨a1, r1, rfl, h⟩ := h
    replace h := ocons_some h
    obtain ⟨a2, r2, rfl, h⟩ := h
    replace h := ocons_some h
    obtain ⟨a3, r3, rfl, h⟩ := h
    replace h := ocons_some h
    obtain ⟨a4, r4, rfl, h⟩ := h
    replace h := ocons_some h
    obtain ⟨a5, r5, rfl, h⟩ := h
    replace h := onil_some h
    obtain ⟨rfl, h⟩ := h
    obtain ⟨bays0, qh0, h⟩ := obind_some h
    obtain ⟨boxes1, qh1, h⟩ := obind_some h
    obtain ⟨spots2, qh2, h⟩ := obind_some h
    obtain ⟨so3, qh3, h⟩ := obind_some h
    obtain ⟨best4, qh4, h⟩ := obind_some h
    obtain ⟨has5, qh5, h⟩ := obind_some h
    rw [argV_eq ok qh0, argV_eq ok qh1, argV_eq ok qh2, argV_eq ok qh3, argV_eq ok qh4, argV_eq ok qh5]
    exact nomatch (show (none : Option (List SStow × Bool)) = some y from h)
  | succ m ih =>
    intro ar y hg h
    unfold spec_l12Seek_Dr at h
    replace h := ocons_some h
    obtain ⟨a0, r0, rfl, h⟩ := h
    replace h := ocons_some h
    obtain ⟨a1, r1, rfl, h⟩ := h
    replace h := ocons_some h
    obtain ⟨a2, r2, rfl, h⟩ := h
    replace h := ocons_some h
    obtain ⟨a3, r3, rfl, h⟩ := h
    replace h := ocons_some h
    obtain ⟨a4, r4, rfl, h⟩ := h
    replace h := ocons_some h
    obtain ⟨a5, r5, rfl, h⟩ := h
    replace h := onil_some h
    obtain ⟨rfl, h⟩ := h
    obtain ⟨bays0, qh0, h⟩ := obind_some h
    obtain ⟨boxes1, qh1, h⟩ := obind_some h
    obtain ⟨spots2, qh2, h⟩ := obind_some h
    obtain ⟨so3, qh3, h⟩ := obind_some h
    obtain ⟨best4, qh4, h⟩ := obind_some h
    obtain ⟨has5, qh5, h⟩ := obind_some h
    rw [argV_eq ok qh0, argV_eq ok qh1, argV_eq ok qh2, argV_eq ok qh3, argV_eq ok qh4, argV_eq ok qh5]
    exact call_of (phiR_nat (phiE_nat _ _) _ _ _ _) (phiR_ok hs ih) ok mixed Try.func46 (c := spec_l12Seek_code) (by kernel_rfl) (spec_l12Seek_lo n (spec_l12Seek_r n m)) (by kernel_rfl) (by kernel_rfl) (by kernel_rfl) spec_l12Seek_de ((spec_l12Seek_tie n (spec_l12Seek_r n m) bays0 boxes1 spots2 so3 best4 has5).trans h)
theorem spec_l12Seek_ok (n : Nat) : EntOk Try.prog (ents n) (spec_l12Seek_ent n) := fun hs ar y hg h => spec_l12Seek_okr n hs n ar y hg h
noncomputable def spec_Fewest_code : Code := match Try.f13.body with | some c => c | none => .skip
def spec_Fewest_4_sv : List Sv := [.one (.arr 96), .one (.arr 63), .one (.int .i64)]
def spec_Fewest_4_so : List So := []
def spec_Fewest_4_emb (c : List SHatch × List SBox) (x : Int) : EVs T spec_Fewest_4_sv × EOs T spec_Fewest_4_so := ((c.1, c.2, x, ()), ())
def spec_Fewest_4_prj (y : EVs T spec_Fewest_4_sv × EOs T spec_Fewest_4_so) : (List SHatch × List SBox) × Int := ((y.1.1, y.1.2.1), (y.1.2.2.1))
def spec_Fewest_4_b (n : Nat) {R : Type} (K : Ex → Sm.St T → Option R) (c : List SHatch × List SBox) (x : Int) (J : Int → Option R) : Option R :=
  spec_Fewest_L4 n (K (.exit 0) (stOf (T := T) [0, 1] [] [.one (.arr 96), .one (.arr 63)] [] (c.1, c.2, ()) ())) (fun (y0 : Bool) (y1 : List SStow) => K .ret (stOf (T := T) [4, 5] [3000000] [.one (.own 3000000 67 false), .one (.bool)] [.arr 67 false] ((), y0, ()) (y1, ()))) J c.1 c.2 x
def spec_Fewest_4_sp (n : Nat) : LSpec T := mkSpec T ⟨[], [0, 1, 6], []⟩ spec_Fewest_4_sv spec_Fewest_4_so (List SHatch × List SBox) (Int) spec_Fewest_4_emb spec_Fewest_4_prj (spec_Fewest_4_b n)
noncomputable def spec_Fewest_4_c : Code := ((loopCodes spec_Fewest_code)[0]?).getD .skip
def spec_Fewest_7_sv : List Sv := [.one (.arr 96), .one (.arr 63), .one (.int .i64), .one (.int .i64)]
def spec_Fewest_7_so : List So := []
def spec_Fewest_7_emb (c : List SHatch × List SBox × Int) (x : Int) : EVs T spec_Fewest_7_sv × EOs T spec_Fewest_7_so := ((c.1, c.2.1, c.2.2, x, ()), ())
def spec_Fewest_7_prj (y : EVs T spec_Fewest_7_sv × EOs T spec_Fewest_7_so) : (List SHatch × List SBox × Int) × Int := ((y.1.1, y.1.2.1, y.1.2.2.1), (y.1.2.2.2.1))
def spec_Fewest_7_b (n : Nat) {R : Type} (K : Ex → Sm.St T → Option R) (c : List SHatch × List SBox × Int) (x : Int) (J : Int → Option R) : Option R :=
  spec_Fewest_L7 n (K (.exit 2) (stOf (T := T) [0, 1, 6] [] [.one (.arr 96), .one (.arr 63), .one (.int .i64)] [] (c.1, c.2.1, c.2.2, ()) ())) (fun (y0 : Bool) (y1 : List SStow) => K .ret (stOf (T := T) [4, 5] [3000000] [.one (.own 3000000 67 false), .one (.bool)] [.arr 67 false] ((), y0, ()) (y1, ()))) J c.1 c.2.1 c.2.2 x
def spec_Fewest_7_sp (n : Nat) : LSpec T := mkSpec T ⟨[], [0, 1, 6, 7], []⟩ spec_Fewest_7_sv spec_Fewest_7_so (List SHatch × List SBox × Int) (Int) spec_Fewest_7_emb spec_Fewest_7_prj (spec_Fewest_7_b n)
noncomputable def spec_Fewest_7_c : Code := ((loopCodes spec_Fewest_code)[1]?).getD .skip
def spec_Fewest_15_sv : List Sv := [.one (.arr 96), .one (.arr 63), .one (.own 3000001 65 false), .one (.int .i64)]
def spec_Fewest_15_so : List So := [.arr 65 false]
def spec_Fewest_15_emb (c : List SHatch × List SBox) (x : Int × List SSpot) : EVs T spec_Fewest_15_sv × EOs T spec_Fewest_15_so := ((c.1, c.2, (), x.1, ()), (x.2, ()))
def spec_Fewest_15_prj (y : EVs T spec_Fewest_15_sv × EOs T spec_Fewest_15_so) : (List SHatch × List SBox) × (Int × List SSpot) := ((y.1.1, y.1.2.1), (y.1.2.2.2.1, y.2.1))
def spec_Fewest_15_b (n : Nat) {R : Type} (K : Ex → Sm.St T → Option R) (c : List SHatch × List SBox) (x : Int × List SSpot) (J : (Int × List SSpot) → Option R) : Option R :=
  spec_Fewest_L15 n (fun (y2 : List SSpot) => K (.exit 4) (stOf (T := T) [0, 1, 8] [3000001] [.one (.arr 96), .one (.arr 63), .one (.own 3000001 65 false)] [.arr 65 false] (c.1, c.2, (), ()) (y2, ()))) (fun z0 z1 => J (z0, z1)) c.1 c.2 x.1 x.2
def spec_Fewest_15_sp (n : Nat) : LSpec T := mkSpec T ⟨[((.reg 8), 3000001, 65)], [0, 1, 8, 9], [3000001]⟩ spec_Fewest_15_sv spec_Fewest_15_so (List SHatch × List SBox) (Int × List SSpot) spec_Fewest_15_emb spec_Fewest_15_prj (spec_Fewest_15_b n)
noncomputable def spec_Fewest_15_c : Code := ((loopCodes spec_Fewest_code)[2]?).getD .skip
def spec_Fewest_18_sv : List Sv := [.one (.arr 96), .one (.arr 63), .one (.own 3000001 65 false), .one (.int .i64), .one (.int .i64)]
def spec_Fewest_18_so : List So := [.arr 65 false]
def spec_Fewest_18_emb (c : List SHatch × List SBox × Int) (x : Int × List SSpot) : EVs T spec_Fewest_18_sv × EOs T spec_Fewest_18_so := ((c.1, c.2.1, (), c.2.2, x.1, ()), (x.2, ()))
def spec_Fewest_18_prj (y : EVs T spec_Fewest_18_sv × EOs T spec_Fewest_18_so) : (List SHatch × List SBox × Int) × (Int × List SSpot) := ((y.1.1, y.1.2.1, y.1.2.2.2.1), (y.1.2.2.2.2.1, y.2.1))
def spec_Fewest_18_b (n : Nat) {R : Type} (K : Ex → Sm.St T → Option R) (c : List SHatch × List SBox × Int) (x : Int × List SSpot) (J : (Int × List SSpot) → Option R) : Option R :=
  spec_Fewest_L18 n (fun (y3 : List SSpot) => K (.exit 6) (stOf (T := T) [0, 1, 8, 9] [3000001] [.one (.arr 96), .one (.arr 63), .one (.own 3000001 65 false), .one (.int .i64)] [.arr 65 false] (c.1, c.2.1, (), c.2.2, ()) (y3, ()))) (fun z0 z1 => J (z0, z1)) c.1 c.2.1 c.2.2 x.1 x.2
def spec_Fewest_18_sp (n : Nat) : LSpec T := mkSpec T ⟨[((.reg 8), 3000001, 65)], [0, 1, 8, 9, 10], [3000001]⟩ spec_Fewest_18_sv spec_Fewest_18_so (List SHatch × List SBox × Int) (Int × List SSpot) spec_Fewest_18_emb spec_Fewest_18_prj (spec_Fewest_18_b n)
noncomputable def spec_Fewest_18_c : Code := ((loopCodes spec_Fewest_code)[3]?).getD .skip
def spec_Fewest_21_sv : List Sv := [.one (.arr 96), .one (.arr 63), .one (.own 3000001 65 false), .one (.int .i64), .one (.int .i64), .one (.int .i64)]
def spec_Fewest_21_so : List So := [.arr 65 false]
def spec_Fewest_21_emb (c : List SHatch × List SBox × Int × Int) (x : Int × List SSpot) : EVs T spec_Fewest_21_sv × EOs T spec_Fewest_21_so := ((c.1, c.2.1, (), c.2.2.1, c.2.2.2, x.1, ()), (x.2, ()))
def spec_Fewest_21_prj (y : EVs T spec_Fewest_21_sv × EOs T spec_Fewest_21_so) : (List SHatch × List SBox × Int × Int) × (Int × List SSpot) := ((y.1.1, y.1.2.1, y.1.2.2.2.1, y.1.2.2.2.2.1), (y.1.2.2.2.2.2.1, y.2.1))
def spec_Fewest_21_b (n : Nat) {R : Type} (K : Ex → Sm.St T → Option R) (c : List SHatch × List SBox × Int × Int) (x : Int × List SSpot) (J : (Int × List SSpot) → Option R) : Option R :=
  spec_Fewest_L21 n (fun (y4 : List SSpot) => K (.exit 8) (stOf (T := T) [0, 1, 8, 9, 10] [3000001] [.one (.arr 96), .one (.arr 63), .one (.own 3000001 65 false), .one (.int .i64), .one (.int .i64)] [.arr 65 false] (c.1, c.2.1, (), c.2.2.1, c.2.2.2, ()) (y4, ()))) (fun z0 z1 => J (z0, z1)) c.1 c.2.1 c.2.2.1 c.2.2.2 x.1 x.2
def spec_Fewest_21_sp (n : Nat) : LSpec T := mkSpec T ⟨[((.reg 8), 3000001, 65)], [0, 1, 8, 9, 10, 11], [3000001]⟩ spec_Fewest_21_sv spec_Fewest_21_so (List SHatch × List SBox × Int × Int) (Int × List SSpot) spec_Fewest_21_emb spec_Fewest_21_prj (spec_Fewest_21_b n)
noncomputable def spec_Fewest_21_c : Code := ((loopCodes spec_Fewest_code)[4]?).getD .skip
def spec_Fewest_ann : Ann := fun id => bif Nat.beq id 3000004 then some ⟨[], [0, 1], []⟩ else bif Nat.beq id 2000004 then some ⟨[((.reg 4), 3000000, 67)], [4, 5], [3000000]⟩ else bif Nat.beq id 5000007 then some ⟨[], [0, 1, 6], []⟩ else bif Nat.beq id 2000007 then some ⟨[((.reg 4), 3000000, 67)], [4, 5], [3000000]⟩ else bif Nat.beq id 7000015 then some ⟨[((.reg 8), 3000001, 65)], [0, 1, 8], [3000001]⟩ else bif Nat.beq id 9000018 then some ⟨[((.reg 8), 3000001, 65)], [0, 1, 8, 9], [3000001]⟩ else bif Nat.beq id 11000021 then some ⟨[((.reg 8), 3000001, 65)], [0, 1, 8, 9, 10], [3000001]⟩ else none
def spec_Fewest_Ls (n : Nat) : Nat → Option (LSpec T) := fun id => bif Nat.beq id 4 then some (spec_Fewest_4_sp n) else bif Nat.beq id 7 then some (spec_Fewest_7_sp n) else bif Nat.beq id 15 then some (spec_Fewest_15_sp n) else bif Nat.beq id 18 then some (spec_Fewest_18_sp n) else bif Nat.beq id 21 then some (spec_Fewest_21_sp n) else none
theorem spec_Fewest_4_le (n : Nat) : LoopEq (T := T) (Phi n 80) (spec_Fewest_Ls n) spec_Fewest_ann n spec_Fewest_4_c (spec_Fewest_4_sp n) := ⟨mkSpec_dec (fun y => rfl), fun c x => by kernel_rfl, fun K J c x => by kernel_rfl⟩
theorem spec_Fewest_7_le (n : Nat) : LoopEq (T := T) (Phi n 80) (spec_Fewest_Ls n) spec_Fewest_ann n spec_Fewest_7_c (spec_Fewest_7_sp n) := ⟨mkSpec_dec (fun y => rfl), fun c x => by kernel_rfl, fun K J c x => by kernel_rfl⟩
theorem spec_Fewest_15_le (n : Nat) : LoopEq (T := T) (Phi n 80) (spec_Fewest_Ls n) spec_Fewest_ann n spec_Fewest_15_c (spec_Fewest_15_sp n) := ⟨mkSpec_dec (fun y => rfl), fun c x => by kernel_rfl, fun K J c x => by kernel_rfl⟩
theorem spec_Fewest_18_le (n : Nat) : LoopEq (T := T) (Phi n 80) (spec_Fewest_Ls n) spec_Fewest_ann n spec_Fewest_18_c (spec_Fewest_18_sp n) := ⟨mkSpec_dec (fun y => rfl), fun c x => by kernel_rfl, fun K J c x => by kernel_rfl⟩
theorem spec_Fewest_21_le (n : Nat) : LoopEq (T := T) (Phi n 80) (spec_Fewest_Ls n) spec_Fewest_ann n spec_Fewest_21_c (spec_Fewest_21_sp n) := ⟨mkSpec_dec (fun y => rfl), fun c x => by kernel_rfl, fun K J c x => by kernel_rfl⟩
theorem spec_Fewest_tie (n : Nat) (bays0 : List SHatch) (boxes1 : List SBox) : evF (T := T) (Phi n 80) (spec_Fewest_Ls n) spec_Fewest_ann n Try.f13 (sg 13) [vA T 47 bays0, vA T 49 boxes1] spec_Fewest_dec = spec_Fewest n bays0 boxes1 := by kernel_rfl
theorem spec_Fewest_lo (n : Nat) : LoopsOk (T := T) (Phi n 80) (spec_Fewest_Ls n) spec_Fewest_ann n spec_Fewest_code := loopsOk_all (cs := [spec_Fewest_4_c, spec_Fewest_7_c, spec_Fewest_15_c, spec_Fewest_18_c, spec_Fewest_21_c]) (by kernel_rfl) ⟨⟨_, by kernel_rfl, spec_Fewest_4_le n⟩, ⟨_, by kernel_rfl, spec_Fewest_7_le n⟩, ⟨_, by kernel_rfl, spec_Fewest_15_le n⟩, ⟨_, by kernel_rfl, spec_Fewest_18_le n⟩, ⟨_, by kernel_rfl, spec_Fewest_21_le n⟩, trivial⟩
theorem spec_Fewest_ok (n : Nat) : EntOk Try.prog (ents n) (spec_Fewest_ent n) := by
  intro hs ar y hg h
  replace h : spec_Fewest_D n ar = some y := h
  unfold spec_Fewest_D at h
  replace h := ocons_some h
  obtain ⟨a0, r0, rfl, h⟩ := h
  replace h := ocons_some h
  obtain ⟨a1, r1, rfl, h⟩ := h
  replace h := onil_some h
  obtain ⟨rfl, h⟩ := h
  obtain ⟨bays0, qh0, h⟩ := obind_some h
  obtain ⟨boxes1, qh1, h⟩ := obind_some h
  rw [argV_eq ok qh0, argV_eq ok qh1]
  exact call_of (phiE_nat _ _) hs ok mixed Try.func13 (c := spec_Fewest_code) (by kernel_rfl) (spec_Fewest_lo n) (by kernel_rfl) (by kernel_rfl) (by kernel_rfl) spec_Fewest_de ((spec_Fewest_tie n bays0 boxes1).trans h)
noncomputable def laws_at_code : Code := match Try.f26.body with | some c => c | none => .skip
def laws_at_ann : Ann := fun id => none
def laws_at_Ls (n : Nat) : Nat → Option (LSpec T) := fun id => none
theorem laws_at_tie (n : Nat) (code0 : List Int) (i1 : Int) : evF (T := T) (Phi n 81) (laws_at_Ls n) laws_at_ann n Try.f26 (sg 26) [vA T 22 code0, vA T 3 i1] laws_at_dec = laws_at n code0 i1 := by kernel_rfl
theorem laws_at_lo (n : Nat) : LoopsOk (T := T) (Phi n 81) (laws_at_Ls n) laws_at_ann n laws_at_code := loopsOk_all (cs := []) (by kernel_rfl) trivial
theorem laws_at_ok (n : Nat) : EntOk Try.prog (ents n) (laws_at_ent n) := by
  intro hs ar y hg h
  replace h : laws_at_D n ar = some y := h
  unfold laws_at_D at h
  replace h := ocons_some h
  obtain ⟨a0, r0, rfl, h⟩ := h
  replace h := ocons_some h
  obtain ⟨a1, r1, rfl, h⟩ := h
  replace h := onil_some h
  obtain ⟨rfl, h⟩ := h
  obtain ⟨code0, qh0, h⟩ := obind_some h
  obtain ⟨i1, qh1, h⟩ := obind_some h
  rw [argV_eq ok qh0, argV_eq ok qh1]
  exact call_of (phiE_nat _ _) hs ok mixed Try.func26 (c := laws_at_code) (by kernel_rfl) (laws_at_lo n) (by kernel_rfl) (by kernel_rfl) (by kernel_rfl) laws_at_de ((laws_at_tie n code0 i1).trans h)
noncomputable def laws_overs_code : Code := match Try.f27.body with | some c => c | none => .skip
def laws_overs_3_sv : List Sv := [.one (.arr 67), .one (.int .i64), .one (.int .i64)]
def laws_overs_3_so : List So := []
def laws_overs_3_emb (c : List SStow) (x : Int × Int) : EVs T laws_overs_3_sv × EOs T laws_overs_3_so := ((c, x.1, x.2, ()), ())
def laws_overs_3_prj (y : EVs T laws_overs_3_sv × EOs T laws_overs_3_so) : List SStow × (Int × Int) := ((y.1.1), (y.1.2.1, y.1.2.2.1))
def laws_overs_3_b (n : Nat) {R : Type} (K : Ex → Sm.St T → Option R) (c : List SStow) (x : Int × Int) (J : (Int × Int) → Option R) : Option R :=
  laws_overs_L3 n (fun (y0 : Int) => K (.exit 0) (stOf (T := T) [3] [] [.one (.int .i64)] [] (y0, ()) ())) (fun z0 z1 => J (z0, z1)) c x.1 x.2
def laws_overs_3_sp (n : Nat) : LSpec T := mkSpec T ⟨[], [0, 3, 4], []⟩ laws_overs_3_sv laws_overs_3_so (List SStow) (Int × Int) laws_overs_3_emb laws_overs_3_prj (laws_overs_3_b n)
noncomputable def laws_overs_3_c : Code := ((loopCodes laws_overs_code)[0]?).getD .skip
def laws_overs_6_sv : List Sv := [.one (.arr 67), .one (.int .i64), .one (.int .i64), .one (.int .i64)]
def laws_overs_6_so : List So := []
def laws_overs_6_emb (c : List SStow × Int) (x : Int × Int) : EVs T laws_overs_6_sv × EOs T laws_overs_6_so := ((c.1, x.1, c.2, x.2, ()), ())
def laws_overs_6_prj (y : EVs T laws_overs_6_sv × EOs T laws_overs_6_so) : (List SStow × Int) × (Int × Int) := ((y.1.1, y.1.2.2.1), (y.1.2.1, y.1.2.2.2.1))
def laws_overs_6_b (n : Nat) {R : Type} (K : Ex → Sm.St T → Option R) (c : List SStow × Int) (x : Int × Int) (J : (Int × Int) → Option R) : Option R :=
  laws_overs_L6 n (fun (y1 : Int) => K (.exit 2) (stOf (T := T) [0, 3, 4] [] [.one (.arr 67), .one (.int .i64), .one (.int .i64)] [] (c.1, y1, c.2, ()) ())) (fun z0 z1 => J (z0, z1)) c.1 x.1 c.2 x.2
def laws_overs_6_sp (n : Nat) : LSpec T := mkSpec T ⟨[], [0, 3, 4, 5], []⟩ laws_overs_6_sv laws_overs_6_so (List SStow × Int) (Int × Int) laws_overs_6_emb laws_overs_6_prj (laws_overs_6_b n)
noncomputable def laws_overs_6_c : Code := ((loopCodes laws_overs_code)[1]?).getD .skip
def laws_overs_ann : Ann := fun id => bif Nat.beq id 3000003 then some ⟨[], [3], []⟩ else bif Nat.beq id 5000006 then some ⟨[], [0, 3, 4], []⟩ else none
def laws_overs_Ls (n : Nat) : Nat → Option (LSpec T) := fun id => bif Nat.beq id 3 then some (laws_overs_3_sp n) else bif Nat.beq id 6 then some (laws_overs_6_sp n) else none
theorem laws_overs_3_le (n : Nat) : LoopEq (T := T) (Phi n 82) (laws_overs_Ls n) laws_overs_ann n laws_overs_3_c (laws_overs_3_sp n) := ⟨mkSpec_dec (fun y => rfl), fun c x => by kernel_rfl, fun K J c x => by kernel_rfl⟩
theorem laws_overs_6_le (n : Nat) : LoopEq (T := T) (Phi n 82) (laws_overs_Ls n) laws_overs_ann n laws_overs_6_c (laws_overs_6_sp n) := ⟨mkSpec_dec (fun y => rfl), fun c x => by kernel_rfl, fun K J c x => by kernel_rfl⟩
theorem laws_overs_tie (n : Nat) (list0 : List SStow) : evF (T := T) (Phi n 82) (laws_overs_Ls n) laws_overs_ann n Try.f27 (sg 27) [vA T 44 list0] laws_overs_dec = laws_overs n list0 := by kernel_rfl
theorem laws_overs_lo (n : Nat) : LoopsOk (T := T) (Phi n 82) (laws_overs_Ls n) laws_overs_ann n laws_overs_code := loopsOk_all (cs := [laws_overs_3_c, laws_overs_6_c]) (by kernel_rfl) ⟨⟨_, by kernel_rfl, laws_overs_3_le n⟩, ⟨_, by kernel_rfl, laws_overs_6_le n⟩, trivial⟩
theorem laws_overs_ok (n : Nat) : EntOk Try.prog (ents n) (laws_overs_ent n) := by
  intro hs ar y hg h
  replace h : laws_overs_D n ar = some y := h
  unfold laws_overs_D at h
  replace h := ocons_some h
  obtain ⟨a0, r0, rfl, h⟩ := h
  replace h := onil_some h
  obtain ⟨rfl, h⟩ := h
  obtain ⟨list0, qh0, h⟩ := obind_some h
  rw [argV_eq ok qh0]
  exact call_of (phiE_nat _ _) hs ok mixed Try.func27 (c := laws_overs_code) (by kernel_rfl) (laws_overs_lo n) (by kernel_rfl) (by kernel_rfl) (by kernel_rfl) laws_overs_de ((laws_overs_tie n list0).trans h)
noncomputable def laws_FnFewest_code : Code := match Try.f5.body with | some c => c | none => .skip
def laws_FnFewest_12_sv : List Sv := [.one (.arr 5), .one (.own 3000000 96 false), .one (.own 3000001 63 false), .one (.own 3000002 67 false), .one (.int .i64)]
def laws_FnFewest_12_so : List So := [.arr 96 false, .arr 63 false, .arr 67 false]
def laws_FnFewest_12_emb (c : List Int × List SHatch × List SBox × List SStow) (x : Int) : EVs T laws_FnFewest_12_sv × EOs T laws_FnFewest_12_so := ((c.1, (), (), (), x, ()), (c.2.1, c.2.2.1, c.2.2.2, ()))
def laws_FnFewest_12_prj (y : EVs T laws_FnFewest_12_sv × EOs T laws_FnFewest_12_so) : (List Int × List SHatch × List SBox × List SStow) × Int := ((y.1.1, y.2.1, y.2.2.1, y.2.2.2.1), (y.1.2.2.2.2.1))
def laws_FnFewest_12_b (n : Nat) {R : Type} (K : Ex → Sm.St T → Option R) (c : List Int × List SHatch × List SBox × List SStow) (x : Int) (J : Int → Option R) : Option R :=
  laws_FnFewest_L12 n (K (.exit 0) (stOf (T := T) [0, 3, 5] [3000000, 3000002] [.one (.arr 5), .one (.own 3000000 96 false), .one (.own 3000002 67 false)] [.arr 96 false, .arr 67 false] (c.1, (), (), ()) (c.2.1, c.2.2.2, ()))) (fun (y0 : Bool) => K .ret (stOf (T := T) [2] [] [.one (.bool)] [] (y0, ()) ())) J c.1 x c.2.1 c.2.2.1 c.2.2.2
def laws_FnFewest_12_sp (n : Nat) : LSpec T := mkSpec T ⟨[((.reg 3), 3000000, 96), ((.reg 4), 3000001, 63), ((.reg 5), 3000002, 67)], [0, 3, 4, 5, 11], [3000000, 3000001, 3000002]⟩ laws_FnFewest_12_sv laws_FnFewest_12_so (List Int × List SHatch × List SBox × List SStow) (Int) laws_FnFewest_12_emb laws_FnFewest_12_prj (laws_FnFewest_12_b n)
noncomputable def laws_FnFewest_12_c : Code := ((loopCodes laws_FnFewest_code)[0]?).getD .skip
def laws_FnFewest_18_sv : List Sv := [.one (.arr 5), .one (.own 3000000 96 false), .one (.own 3000002 67 false), .one (.own 3000003 67 false), .one (.int .i64)]
def laws_FnFewest_18_so : List So := [.arr 96 false, .arr 67 false, .arr 67 false]
def laws_FnFewest_18_emb (c : List Int × List SHatch × List SStow) (x : Int × List SStow) : EVs T laws_FnFewest_18_sv × EOs T laws_FnFewest_18_so := ((c.1, (), (), (), x.1, ()), (c.2.1, c.2.2, x.2, ()))
def laws_FnFewest_18_prj (y : EVs T laws_FnFewest_18_sv × EOs T laws_FnFewest_18_so) : (List Int × List SHatch × List SStow) × (Int × List SStow) := ((y.1.1, y.2.1, y.2.2.1), (y.1.2.2.2.2.1, y.2.2.2.1))
def laws_FnFewest_18_b (n : Nat) {R : Type} (K : Ex → Sm.St T → Option R) (c : List Int × List SHatch × List SStow) (x : Int × List SStow) (J : (Int × List SStow) → Option R) : Option R :=
  laws_FnFewest_L18 n (fun (y2 : List SStow) => K (.exit 2) (stOf (T := T) [3, 5, 12] [3000000, 3000002, 3000003] [.one (.own 3000000 96 false), .one (.own 3000002 67 false), .one (.own 3000003 67 false)] [.arr 96 false, .arr 67 false, .arr 67 false] ((), (), (), ()) (c.2.1, c.2.2, y2, ()))) (fun z0 z1 => J (z0, z1)) c.1 x.1 c.2.1 c.2.2 x.2
def laws_FnFewest_18_sp (n : Nat) : LSpec T := mkSpec T ⟨[((.reg 3), 3000000, 96), ((.reg 5), 3000002, 67), ((.reg 12), 3000003, 67)], [0, 3, 5, 12, 13], [3000000, 3000002, 3000003]⟩ laws_FnFewest_18_sv laws_FnFewest_18_so (List Int × List SHatch × List SStow) (Int × List SStow) laws_FnFewest_18_emb laws_FnFewest_18_prj (laws_FnFewest_18_b n)
noncomputable def laws_FnFewest_18_c : Code := ((loopCodes laws_FnFewest_code)[1]?).getD .skip
def laws_FnFewest_ann : Ann := fun id => bif Nat.beq id 3000012 then some ⟨[((.reg 3), 3000000, 96), ((.reg 5), 3000002, 67)], [0, 3, 5], [3000000, 3000002]⟩ else bif Nat.beq id 2000012 then some ⟨[], [2], []⟩ else bif Nat.beq id 5000018 then some ⟨[((.reg 3), 3000000, 96), ((.reg 5), 3000002, 67), ((.reg 12), 3000003, 67)], [3, 5, 12], [3000000, 3000002, 3000003]⟩ else none
def laws_FnFewest_Ls (n : Nat) : Nat → Option (LSpec T) := fun id => bif Nat.beq id 12 then some (laws_FnFewest_12_sp n) else bif Nat.beq id 18 then some (laws_FnFewest_18_sp n) else none
theorem laws_FnFewest_12_le (n : Nat) : LoopEq (T := T) (Phi n 83) (laws_FnFewest_Ls n) laws_FnFewest_ann n laws_FnFewest_12_c (laws_FnFewest_12_sp n) := ⟨mkSpec_dec (fun y => rfl), fun c x => by kernel_rfl, fun K J c x => by kernel_rfl⟩
theorem laws_FnFewest_18_le (n : Nat) : LoopEq (T := T) (Phi n 83) (laws_FnFewest_Ls n) laws_FnFewest_ann n laws_FnFewest_18_c (laws_FnFewest_18_sp n) := ⟨mkSpec_dec (fun y => rfl), fun c x => by kernel_rfl, fun K J c x => by kernel_rfl⟩
theorem laws_FnFewest_tie (n : Nat) (code0 : List Int) : evF (T := T) (Phi n 83) (laws_FnFewest_Ls n) laws_FnFewest_ann n Try.f5 (sg 5) [vA T 22 code0] laws_FnFewest_dec = laws_FnFewest n code0 := by kernel_rfl
theorem laws_FnFewest_lo (n : Nat) : LoopsOk (T := T) (Phi n 83) (laws_FnFewest_Ls n) laws_FnFewest_ann n laws_FnFewest_code := loopsOk_all (cs := [laws_FnFewest_12_c, laws_FnFewest_18_c]) (by kernel_rfl) ⟨⟨_, by kernel_rfl, laws_FnFewest_12_le n⟩, ⟨_, by kernel_rfl, laws_FnFewest_18_le n⟩, trivial⟩
theorem laws_FnFewest_ok (n : Nat) : EntOk Try.prog (ents n) (laws_FnFewest_ent n) := by
  intro hs ar y hg h
  replace h : laws_FnFewest_D n ar = some y := h
  unfold laws_FnFewest_D at h
  replace h := ocons_some h
  obtain ⟨a0, r0, rfl, h⟩ := h
  replace h := onil_some h
  obtain ⟨rfl, h⟩ := h
  obtain ⟨code0, qh0, h⟩ := obind_some h
  rw [argV_eq ok qh0]
  exact call_of (phiE_nat _ _) hs ok mixed Try.func5 (c := laws_FnFewest_code) (by kernel_rfl) (laws_FnFewest_lo n) (by kernel_rfl) (by kernel_rfl) (by kernel_rfl) laws_FnFewest_de ((laws_FnFewest_tie n code0).trans h)
theorem entsOk (n : Nat) : EntsOk Try.prog (ents n) (ents n) := ⟨laws_big_ok n, spec_l1New_ok n, spec_l1Byte_ok n, spec_l1Below_ok n, spec_l1PickInt_ok n, spec_l12DrawBays_ok n, spec_l1In_ok n, spec_l11Letter_ok n, spec_CheckDigit_ok n, spec_l11DrawName_ok n, spec_l1Once_ok n, spec_l11Draw_ok n, spec_l1Pick_ok n, spec_l11DrawText_ok n, spec_l11DrawAny_ok n, spec_DrawFewest_ok n, impl_in_ok n, impl_HatchesOk_1_ok n, sIndex_HatchesOk_1_ok n, sContains_HatchesOk_1_ok n, impl_HatchesOk_ok n, impl_valueOf_ok n, impl_CheckDigit_ok n, impl_BoxName_ok n, impl_portOk_ok n, impl_BoxOk_ok n, impl_Fewest_1_ok n, sIndex_Fewest_1_ok n, sContains_Fewest_1_ok n, impl_StowCode_1_ok n, impl_StowCode_2_1_ok n, sIndex_StowCode_2_1_ok n, sContains_StowCode_2_1_ok n, impl_StowCode_2_ok n, impl_StowCode_3_ok n, impl_StowCode_4_1_ok n, sIndex_StowCode_4_1_ok n, sContains_StowCode_4_1_ok n, impl_StowCode_4_ok n, cmp_isNaN_int_ok n, cmp_Compare_int_ok n, impl_stackOf_1_ok n, sSort_stackOf_1_ok n, impl_stackOf_ok n, impl_StackOk_ok n, impl_StowCode_5_ok n, impl_StowCode_6_ok n, impl_spotOk_ok n, impl_size_ok n, impl_Apart_ok n, impl_KeepsApart_ok n, impl_StowCode_7_1_ok n, sIndex_StowCode_7_1_ok n, sContains_StowCode_7_1_ok n, impl_StowCode_7_ok n, impl_StowCode_ok n, impl_over_ok n, impl_overstows_ok n, impl_own_impl_Stow_ok n, impl_Fewest_2_1_ok n, sIndex_Fewest_2_1_ok n, sContains_Fewest_2_1_ok n, impl_Fewest_2__self_ok n, impl_Fewest_ok n, spec_HatchesOk_ok n, spec_BoxName_ok n, spec_BoxOk_ok n, spec_l12At_ok n, spec_l12Stack_ok n, spec_StackOk_ok n, spec_l12Cold_ok n, spec_l11Spot_ok n, spec_l3Size_ok n, spec_l1Least_ok n, spec_Apart_ok n, spec_KeepsApart_ok n, spec_l12Fails_ok n, spec_StowCode_ok n, spec_l12Over_ok n, spec_l12Seek_ok n, spec_Fewest_ok n, laws_at_ok n, laws_overs_ok n, laws_FnFewest_ok n, trivial⟩
theorem sem (n i : Nat) : SemOk (Phi n i) (CallOk Try.prog T) := phiE_ok (entsOk n) i
end Go.Sm.F5
