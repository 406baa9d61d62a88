import Derived.Test.YtefibegfcfbcjaaEngD
import Derived.Test.YtefibegfcfbcjaaD5Tie
import Derived.Test.YtefibegfcfbcjaaD5Fn
import Derived.Test.YtefibegfcfbcjaaFacts
/- RunYard: a run of deeds in a yard by the written-out way and by the built one comes to the same, for every yard and all deeds. -/
set_option linter.unusedSimpArgs false
set_option linter.deprecated false
set_option linter.unusedSectionVars false
set_option linter.unusedVariables false
set_option maxRecDepth 100000
open Go Go.Proofs
noncomputable section
namespace Go.Sm.D5
abbrev S : List Nat := [37, 3, 35, 23, 50, 39]
theorem wf_3 (x : Int) (h : ∀ d ∈ T.dget 3 x, WfD T d) : rng (-9223372036854775808) 9223372036854775807 x := by
  have h : ∀ d ∈ ([.int .i64 x] : List (D T.U)), WfD T d := h
  exact (WfD.i (h _ (.head _)))
theorem wf_23 (x : List Int) (h : ∀ d ∈ T.dget 23 x, WfD T d) : (x.length ≤ 9223372036854775807 ∧ ∀ y ∈ x, rng (-9223372036854775808) 9223372036854775807 y) := by
  have h : ∀ d ∈ ([.arr 3 x] : List (D T.U)), WfD T d := h
  exact ⟨(WfD.a (h _ (.head _))).1, fun y hy => wf_3 y ((WfD.a (h _ (.head _))).2 y hy)⟩
theorem wf_37 (x : SYard) (h : ∀ d ∈ T.dget 37 x, WfD T d) : wfSYard x := by
  have h : ∀ d ∈ ([.int .i64 x.High, .arr 23 x.Stacks] : List (D T.U)), WfD T d := h
  exact ⟨(WfD.i (h _ (.head _))), ⟨(WfD.a (h _ (.tail _ (.head _)))).1, fun y hy => wf_23 y ((WfD.a (h _ (.tail _ (.head _)))).2 y hy)⟩⟩
theorem wf_39 (x : SYardOp) (h : ∀ d ∈ T.dget 39 x, WfD T d) : wfSYardOp x := by
  have h : ∀ d ∈ ([.int .i64 x.Kind, .int .i64 x.Box, .int .i64 x.Stack] : List (D T.U)), WfD T d := h
  exact ⟨(WfD.i (h _ (.head _))), (WfD.i (h _ (.tail _ (.head _)))), (WfD.i (h _ (.tail _ (.tail _ (.head _)))))⟩
theorem wf_50 (x : List SYardOp) (h : ∀ d ∈ T.dget 50 x, WfD T d) : (x.length ≤ 9223372036854775807 ∧ ∀ y ∈ x, wfSYardOp y) := by
  have h : ∀ d ∈ ([.arr 39 x] : List (D T.U)), WfD T d := h
  exact ⟨(WfD.a (h _ (.head _))).1, fun y hy => wf_39 y ((WfD.a (h _ (.head _))).2 y hy)⟩
theorem rd_37 : RdT T S 37 := by
  have hm : ∀ ds, SameL (T.dget 37 (T.dflt 37)) ds → ∃ x, T.dset 37 ds = some x := by
    intro ds h
    obtain ⟨c0, r0, rfl, ⟨b0, rfl⟩, h⟩ := h
    obtain ⟨c1, r1, rfl, ⟨b1, rfl⟩, h⟩ := h
    cases h
    exact some_of (by kernel_rfl)
  exact .ofStruct (fs := [(0, 3), (1, 35)]) (by kernel_rfl) hm (by kernel_rfl) (by kernel_rfl) (by kernel_rfl) (by decide)
theorem rd_3 : RdT T S 3 := by
  have hm : ∀ ds, SameL (T.dget 3 (T.dflt 3)) ds → ∃ x, T.dset 3 ds = some x := by
    intro ds h
    obtain ⟨c0, r0, rfl, ⟨b0, rfl⟩, h⟩ := h
    cases h
    exact some_of (by kernel_rfl)
  exact .ofInt (by kernel_rfl) hm rfl ⟨_, rfl⟩
theorem rd_35 : RdT T S 35 := by
  have hm : ∀ ds, SameL (T.dget 35 (T.dflt 35)) ds → ∃ x, T.dset 35 ds = some x := by
    intro ds h
    obtain ⟨c0, r0, rfl, ⟨b0, rfl⟩, h⟩ := h
    cases h
    exact some_of (by kernel_rfl)
  exact .ofSlice (e := 23) (by kernel_rfl) hm rfl ⟨_, rfl⟩ (by decide)
theorem rd_23 : RdT T S 23 := by
  have hm : ∀ ds, SameL (T.dget 23 (T.dflt 23)) ds → ∃ x, T.dset 23 ds = some x := by
    intro ds h
    obtain ⟨c0, r0, rfl, ⟨b0, rfl⟩, h⟩ := h
    cases h
    exact some_of (by kernel_rfl)
  exact .ofSlice (e := 3) (by kernel_rfl) hm rfl ⟨_, rfl⟩ (by decide)
theorem rd_50 : RdT T S 50 := by
  have hm : ∀ ds, SameL (T.dget 50 (T.dflt 50)) ds → ∃ x, T.dset 50 ds = some x := by
    intro ds h
    obtain ⟨c0, r0, rfl, ⟨b0, rfl⟩, h⟩ := h
    cases h
    exact some_of (by kernel_rfl)
  exact .ofSlice (e := 39) (by kernel_rfl) hm rfl ⟨_, rfl⟩ (by decide)
theorem rd_39 : RdT T S 39 := by
  have hm : ∀ ds, SameL (T.dget 39 (T.dflt 39)) ds → ∃ x, T.dset 39 ds = some x := by
    intro ds h
    obtain ⟨c0, r0, rfl, ⟨b0, rfl⟩, h⟩ := h
    obtain ⟨c1, r1, rfl, ⟨b1, rfl⟩, h⟩ := h
    obtain ⟨c2, r2, rfl, ⟨b2, rfl⟩, h⟩ := h
    cases h
    exact some_of (by kernel_rfl)
  exact .ofStruct (fs := [(0, 3), (1, 3), (2, 3)]) (by kernel_rfl) hm (by kernel_rfl) (by kernel_rfl) (by kernel_rfl) (by decide)
theorem rds : ∀ t ∈ S, RdT T S t := List.forall_mem_cons.2 ⟨rd_37, List.forall_mem_cons.2 ⟨rd_3, List.forall_mem_cons.2 ⟨rd_35, List.forall_mem_cons.2 ⟨rd_23, List.forall_mem_cons.2 ⟨rd_50, List.forall_mem_cons.2 ⟨rd_39, fun _ h => nomatch h⟩⟩⟩⟩⟩⟩
theorem law_call : ∀ ar, ArgsAre T Try.f5.params.toList ar → CallOk Try.prog T 5 ar (laws_FnExactRunYard_enc true) := by
  intro ar h
  rw [Try.params5] at h
  obtain ⟨y0, r0, rfl, w0, y1, r1, rfl, w1, rfl⟩ := h
  obtain ⟨n, hn⟩ := laws_FnExactRunYard_true y0 y1 (wf_37 y0 w0) (wf_50 y1 w1)
  exact call_of (phiE_nat _ _) (sem n 41) ok mixed Try.func5 (c := laws_FnExactRunYard_code) (by kernel_rfl) (laws_FnExactRunYard_lo n) (by kernel_rfl) (by kernel_rfl) (by kernel_rfl) laws_FnExactRunYard_de ((laws_FnExactRunYard_tie n y0 y1).trans hn)
end Go.Sm.D5
namespace Go.Proofs.Ytefibegfcfbcjaa
open Go.ChangeShapes Go.WideShapes Go.ChangeAt Go.RowKit Go.Sm Go.Sm.D5
theorem fnExactRunYard_lifted (os : Os) (started : os.Started) (H : Type) (enc : TypeId × Value → H) :
    ReturnsInHanded {} Try.checked os 5 .any (Rows.fnExactRunYardSpec.pre6 enc Try.prog Try.f5 Rows.fnExactRunYardRow.domain false) (Rows.fnExactRunYardSpec.post enc Try.prog Try.f5 false true false false) := by
  refine returnsInHanded_of_change (C := Try.checked) Try.own started (by kernel_rfl) Try.func5
    (ChangeSpec.witness6 (enc := enc) (C := Try.checked) false ⟨#[], #[.agg #[.int .i64 0, .slice none 0 0], .slice none 0 0], []⟩ 8 (by kernel_rfl) (by kernel_rfl) (by kernel_rfl) (by kernel_rfl)) ?_
  intro W base args ds gs before hval hW _ _
  exact row_of (P := Try.prog) (T := T) (s := Rows.fnExactRunYardSpec) (fn := Try.f5) (tb := 4) ok rds Try.laidOut (by rw [Try.params5]; decide)
    (by rw [Try.params5]; exact List.forall_mem_cons.2 ⟨⟨by kernel_rfl, of_decide_eq_true (by kernel_rfl)⟩, List.forall_mem_cons.2 ⟨⟨by kernel_rfl, of_decide_eq_true (by kernel_rfl)⟩, fun _ h => nomatch h⟩⟩) (by rw [Try.params5]; rfl) rfl (by rw [Try.params5]; intro ds h; match ds, h with | [d0, d1], _ => rfl) (by rfl) Try.underlying4 hval hW rfl law_call
theorem fnExactRunYard_f1 : (Rows.fnExactRunYardRow.inPlace == Try.prog.inPlace 5) = true := by kernel_rfl
theorem fnExactRunYard_f2 : (Rows.fnExactRunYardRow.unfollowed == Try.prog.unfollowed 5) = true := by kernel_rfl
theorem fnExactRunYard_f3 : (Rows.fnExactRunYardRow.recurses == Try.prog.recurses 5) = true := by kernel_rfl
theorem fnExactRunYard_f4 : (Rows.fnExactRunYardRow.named == Try.prog.varsNamed 5) = true := by kernel_rfl
theorem fnExactRunYard_facts : joinedFacts Try.prog 5 Try.f5 Rows.fnExactRunYardSpec Rows.fnExactRunYardRow = true := by
  unfold joinedFacts
  exact and_mk (and_mk (and_mk (and_mk (and_mk (and_mk (and_mk (and_mk (and_mk (and_mk (and_mk (and_mk (and_mk (and_mk (and_mk (and_mk (and_mk (and_mk (and_mk (and_mk (and_mk (and_mk (and_mk (and_mk (and_mk (and_mk (and_mk (and_mk (and_mk (and_mk (and_mk
    (by kernel_rfl) Try.laidOut) Try.fRowed) (by kernel_rfl)) (by kernel_rfl)) (by kernel_rfl)) Try.fStops) (by kernel_rfl)) Try.fKnobs) fnExactRunYard_f1) fnExactRunYard_f2) fnExactRunYard_f3) fnExactRunYard_f4)
    (by kernel_rfl)) (by kernel_rfl)) (by kernel_rfl)) (by kernel_rfl)) (by kernel_rfl)) (by kernel_rfl)) (by kernel_rfl)) (by kernel_rfl)) (by kernel_rfl)) Try.fKeys) (by kernel_rfl)) Try.fHeard) Try.fEnter) Try.fLifted) Try.fMake) (by kernel_rfl)) (by kernel_rfl)) (by kernel_rfl)) (by kernel_rfl)
theorem fnExactRunYard_holds : Rows.FnExactRunYardSaid :=
  OpenClaim.holds_of_wide 5 Try.f5 rfl rfl rfl rfl rfl rfl rfl ⟨rfl, rfl, rfl, rfl, rfl⟩ rfl rfl rfl rfl rfl (by kernel_rfl) Try.func5 fnExactRunYard_facts
    (of_decide_eq_true (by kernel_rfl)) (by unfold Func.isWrapper; first | (rw [if_pos (by decide +kernel)]; kernel_rfl) | (rw [if_neg (by decide +kernel)]; exact ⟨rfl, rfl⟩))
    (fun os started H enc _ => fnExactRunYard_lifted os started H enc)
end Go.Proofs.Ytefibegfcfbcjaa
