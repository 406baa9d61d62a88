import Derived.Test.YtjilmfkglikoeaaEngD
import Derived.Test.YtjilmfkglikoeaaB8Tie
import Derived.Test.YtjilmfkglikoeaaB8Fn
import Derived.Test.YtjilmfkglikoeaaFacts
/- Apply6: what an update leaves of a chart, and its verdict, are the same written out and built, for every chart and update. -/
set_option linter.unusedSimpArgs false
set_option linter.deprecated false
set_option linter.unusedSectionVars false
set_option linter.unusedVariables false
set_option maxRecDepth 100000
open Go Go.Proofs
noncomputable section
namespace Go.Sm.B8
abbrev S : List Nat := [58, 3, 55, 56, 251, 9, 80, 78, 260]
theorem wf_3 (x : Int) (h : ∀ d ∈ T.dget 3 x, WfD T d) : rng (-9223372036854775808) 9223372036854775807 x := by
  have h : ∀ d ∈ ([.int .i64 x] : List (D T.U)), WfD T d := h
  exact (WfD.i (h _ (.head _)))
theorem wf_251 (x : SFeature) (h : ∀ d ∈ T.dget 251 x, WfD T d) : wfSFeature x := by
  have h : ∀ d ∈ ([.int .i64 x.Id, .int .i64 x.Kind, .int .i64 x.X, .int .i64 x.Y, .str x.Text] : List (D T.U)), WfD T d := h
  exact ⟨(WfD.i (h _ (.head _))), (WfD.i (h _ (.tail _ (.head _)))), (WfD.i (h _ (.tail _ (.tail _ (.head _))))), (WfD.i (h _ (.tail _ (.tail _ (.tail _ (.head _)))))), (WfD.s (h _ (.tail _ (.tail _ (.tail _ (.tail _ (.head _)))))))⟩
theorem wf_58 (x : SChart) (h : ∀ d ∈ T.dget 58 x, WfD T d) : wfSChart x := by
  have h : ∀ d ∈ ([.int .i64 x.Wide, .int .i64 x.High, .arr 3 x.Depths, .arr 251 x.Features, .int .i64 x.Edition] : List (D T.U)), WfD T d := h
  exact ⟨(WfD.i (h _ (.head _))), (WfD.i (h _ (.tail _ (.head _)))), ⟨(WfD.a (h _ (.tail _ (.tail _ (.head _))))).1, fun y hy => wf_3 y ((WfD.a (h _ (.tail _ (.tail _ (.head _))))).2 y hy)⟩, ⟨(WfD.a (h _ (.tail _ (.tail _ (.tail _ (.head _)))))).1, fun y hy => wf_251 y ((WfD.a (h _ (.tail _ (.tail _ (.tail _ (.head _)))))).2 y hy)⟩, (WfD.i (h _ (.tail _ (.tail _ (.tail _ (.tail _ (.head _)))))))⟩
theorem wf_260 (x : SNote) (h : ∀ d ∈ T.dget 260 x, WfD T d) : wfSNote x := by
  have h : ∀ d ∈ ([.int .i64 x.Kind, .int .i64 x.Id, .int .i64 x.X, .int .i64 x.Y, .int .i64 x.Depth, .str x.Text, .int .i64 x.Sort_] : List (D T.U)), WfD T d := h
  exact ⟨(WfD.i (h _ (.head _))), (WfD.i (h _ (.tail _ (.head _)))), (WfD.i (h _ (.tail _ (.tail _ (.head _))))), (WfD.i (h _ (.tail _ (.tail _ (.tail _ (.head _)))))), (WfD.i (h _ (.tail _ (.tail _ (.tail _ (.tail _ (.head _))))))), (WfD.s (h _ (.tail _ (.tail _ (.tail _ (.tail _ (.tail _ (.head _)))))))), (WfD.i (h _ (.tail _ (.tail _ (.tail _ (.tail _ (.tail _ (.tail _ (.head _)))))))))⟩
theorem wf_80 (x : SUpdate) (h : ∀ d ∈ T.dget 80 x, WfD T d) : wfSUpdate x := by
  have h : ∀ d ∈ ([.int .i64 x.Edition, .arr 260 x.Notes] : List (D T.U)), WfD T d := h
  exact ⟨(WfD.i (h _ (.head _))), ⟨(WfD.a (h _ (.tail _ (.head _)))).1, fun y hy => wf_260 y ((WfD.a (h _ (.tail _ (.head _)))).2 y hy)⟩⟩
theorem rd_58 : RdT T S 58 := by
  have hm : ∀ ds, SameL (T.dget 58 (T.dflt 58)) ds → ∃ x, T.dset 58 ds = some x := by
    intro ds h
    obtain ⟨c0, r0, rfl, ⟨b0, rfl⟩, h⟩ := h
    obtain ⟨c1, r1, rfl, ⟨b1, rfl⟩, h⟩ := h
    obtain ⟨c2, r2, rfl, ⟨b2, rfl⟩, h⟩ := h
    obtain ⟨c3, r3, rfl, ⟨b3, rfl⟩, h⟩ := h
    obtain ⟨c4, r4, rfl, ⟨b4, rfl⟩, h⟩ := h
    cases h
    exact some_of (by kernel_rfl)
  exact .ofStruct (fs := [(0, 3), (1, 3), (2, 55), (3, 56), (4, 3)]) (by kernel_rfl) hm (by kernel_rfl) (by kernel_rfl) (by kernel_rfl) (by decide)
theorem rd_3 : RdT T S 3 := by
  have hm : ∀ ds, SameL (T.dget 3 (T.dflt 3)) ds → ∃ x, T.dset 3 ds = some x := by
    intro ds h
    obtain ⟨c0, r0, rfl, ⟨b0, rfl⟩, h⟩ := h
    cases h
    exact some_of (by kernel_rfl)
  exact .ofInt (by kernel_rfl) hm rfl ⟨_, rfl⟩
theorem rd_55 : RdT T S 55 := by
  have hm : ∀ ds, SameL (T.dget 55 (T.dflt 55)) ds → ∃ x, T.dset 55 ds = some x := by
    intro ds h
    obtain ⟨c0, r0, rfl, ⟨b0, rfl⟩, h⟩ := h
    cases h
    exact some_of (by kernel_rfl)
  exact .ofSlice (e := 3) (by kernel_rfl) hm rfl ⟨_, rfl⟩ (by decide)
theorem rd_56 : RdT T S 56 := by
  have hm : ∀ ds, SameL (T.dget 56 (T.dflt 56)) ds → ∃ x, T.dset 56 ds = some x := by
    intro ds h
    obtain ⟨c0, r0, rfl, ⟨b0, rfl⟩, h⟩ := h
    cases h
    exact some_of (by kernel_rfl)
  exact .ofSlice (e := 251) (by kernel_rfl) hm rfl ⟨_, rfl⟩ (by decide)
theorem rd_251 : RdT T S 251 := by
  have hm : ∀ ds, SameL (T.dget 251 (T.dflt 251)) ds → ∃ x, T.dset 251 ds = some x := by
    intro ds h
    obtain ⟨c0, r0, rfl, ⟨b0, rfl⟩, h⟩ := h
    obtain ⟨c1, r1, rfl, ⟨b1, rfl⟩, h⟩ := h
    obtain ⟨c2, r2, rfl, ⟨b2, rfl⟩, h⟩ := h
    obtain ⟨c3, r3, rfl, ⟨b3, rfl⟩, h⟩ := h
    obtain ⟨c4, r4, rfl, ⟨b4, rfl⟩, h⟩ := h
    cases h
    exact some_of (by kernel_rfl)
  exact .ofStruct (fs := [(0, 3), (1, 3), (2, 3), (3, 3), (4, 9)]) (by kernel_rfl) hm (by kernel_rfl) (by kernel_rfl) (by kernel_rfl) (by decide)
theorem rd_9 : RdT T S 9 := by
  have hm : ∀ ds, SameL (T.dget 9 (T.dflt 9)) ds → ∃ x, T.dset 9 ds = some x := by
    intro ds h
    obtain ⟨c0, r0, rfl, ⟨b0, rfl⟩, h⟩ := h
    cases h
    exact some_of (by kernel_rfl)
  exact .ofStr (by kernel_rfl) hm rfl ⟨_, rfl⟩
theorem rd_80 : RdT T S 80 := by
  have hm : ∀ ds, SameL (T.dget 80 (T.dflt 80)) ds → ∃ x, T.dset 80 ds = some x := by
    intro ds h
    obtain ⟨c0, r0, rfl, ⟨b0, rfl⟩, h⟩ := h
    obtain ⟨c1, r1, rfl, ⟨b1, rfl⟩, h⟩ := h
    cases h
    exact some_of (by kernel_rfl)
  exact .ofStruct (fs := [(0, 3), (1, 78)]) (by kernel_rfl) hm (by kernel_rfl) (by kernel_rfl) (by kernel_rfl) (by decide)
theorem rd_78 : RdT T S 78 := by
  have hm : ∀ ds, SameL (T.dget 78 (T.dflt 78)) ds → ∃ x, T.dset 78 ds = some x := by
    intro ds h
    obtain ⟨c0, r0, rfl, ⟨b0, rfl⟩, h⟩ := h
    cases h
    exact some_of (by kernel_rfl)
  exact .ofSlice (e := 260) (by kernel_rfl) hm rfl ⟨_, rfl⟩ (by decide)
theorem rd_260 : RdT T S 260 := by
  have hm : ∀ ds, SameL (T.dget 260 (T.dflt 260)) ds → ∃ x, T.dset 260 ds = some x := by
    intro ds h
    obtain ⟨c0, r0, rfl, ⟨b0, rfl⟩, h⟩ := h
    obtain ⟨c1, r1, rfl, ⟨b1, rfl⟩, h⟩ := h
    obtain ⟨c2, r2, rfl, ⟨b2, rfl⟩, h⟩ := h
    obtain ⟨c3, r3, rfl, ⟨b3, rfl⟩, h⟩ := h
    obtain ⟨c4, r4, rfl, ⟨b4, rfl⟩, h⟩ := h
    obtain ⟨c5, r5, rfl, ⟨b5, rfl⟩, h⟩ := h
    obtain ⟨c6, r6, rfl, ⟨b6, rfl⟩, h⟩ := h
    cases h
    exact some_of (by kernel_rfl)
  exact .ofStruct (fs := [(0, 3), (1, 3), (2, 3), (3, 3), (4, 3), (5, 9), (6, 3)]) (by kernel_rfl) hm (by kernel_rfl) (by kernel_rfl) (by kernel_rfl) (by decide)
theorem rds : ∀ t ∈ S, RdT T S t := List.forall_mem_cons.2 ⟨rd_58, List.forall_mem_cons.2 ⟨rd_3, List.forall_mem_cons.2 ⟨rd_55, List.forall_mem_cons.2 ⟨rd_56, List.forall_mem_cons.2 ⟨rd_251, List.forall_mem_cons.2 ⟨rd_9, List.forall_mem_cons.2 ⟨rd_80, List.forall_mem_cons.2 ⟨rd_78, List.forall_mem_cons.2 ⟨rd_260, fun _ h => nomatch h⟩⟩⟩⟩⟩⟩⟩⟩⟩
theorem law_call : ∀ ar, ArgsAre T Try.f8.params.toList ar → CallOk Try.prog T 8 ar (laws_FnExactApply6_enc true) := by
  intro ar h
  rw [Try.params8] at h
  obtain ⟨y0, r0, rfl, w0, y1, r1, rfl, w1, rfl⟩ := h
  obtain ⟨n, hn⟩ := laws_FnExactApply6_true y0 y1 (wf_58 y0 w0) (wf_80 y1 w1)
  exact call_of (phiE_nat _ _) (sem n 58) ok mixed Try.func8 (c := laws_FnExactApply6_code) (by kernel_rfl) (laws_FnExactApply6_lo n) (by kernel_rfl) (by kernel_rfl) (by kernel_rfl) laws_FnExactApply6_de ((laws_FnExactApply6_tie n y0 y1).trans hn)
end Go.Sm.B8
namespace Go.Proofs.Ytjilmfkglikoeaa
open Go.ChangeShapes Go.WideShapes Go.ChangeAt Go.RowKit Go.Sm Go.Sm.B8
theorem fnExactApply6_lifted (os : Os) (started : os.Started) (H : Type) (enc : TypeId × Value → H) :
    ReturnsInHanded {} Try.checked os 8 .any (Rows.fnExactApply6Spec.pre6 enc Try.prog Try.f8 Rows.fnExactApply6Row.domain false) (Rows.fnExactApply6Spec.post enc Try.prog Try.f8 false true false false) := by
  refine returnsInHanded_of_change (C := Try.checked) Try.own started (by kernel_rfl) Try.func8
    (ChangeSpec.witness6 (enc := enc) (C := Try.checked) false ⟨#[], #[.agg #[.int .i64 0, .int .i64 0, .slice none 0 0, .slice none 0 0, .int .i64 0], .agg #[.int .i64 0, .slice none 0 0]], []⟩ 8 (by kernel_rfl) (by kernel_rfl) (by kernel_rfl) (by kernel_rfl)) ?_
  intro W base args ds gs before hval hW _ _
  exact row_of (P := Try.prog) (T := T) (s := Rows.fnExactApply6Spec) (fn := Try.f8) (tb := 4) ok rds Try.laidOut (by rw [Try.params8]; decide)
    (by rw [Try.params8]; exact List.forall_mem_cons.2 ⟨⟨by kernel_rfl, of_decide_eq_true (by kernel_rfl)⟩, List.forall_mem_cons.2 ⟨⟨by kernel_rfl, of_decide_eq_true (by kernel_rfl)⟩, fun _ h => nomatch h⟩⟩) (by rw [Try.params8]; rfl) rfl (by rw [Try.params8]; intro ds h; match ds, h with | [d0, d1], _ => rfl) (by rfl) Try.underlying4 hval hW rfl law_call
theorem fnExactApply6_f1 : (Rows.fnExactApply6Row.inPlace == Try.prog.inPlace 8) = true := by kernel_rfl
theorem fnExactApply6_f2 : (Rows.fnExactApply6Row.unfollowed == Try.prog.unfollowed 8) = true := by kernel_rfl
theorem fnExactApply6_f3 : (Rows.fnExactApply6Row.recurses == Try.prog.recurses 8) = true := by kernel_rfl
theorem fnExactApply6_f4 : (Rows.fnExactApply6Row.named == Try.prog.varsNamed 8) = true := by kernel_rfl
theorem fnExactApply6_facts : joinedFacts Try.prog 8 Try.f8 Rows.fnExactApply6Spec Rows.fnExactApply6Row = true := by
  unfold joinedFacts
  exact and_mk (and_mk (and_mk (and_mk (and_mk (and_mk (and_mk (and_mk (and_mk (and_mk (and_mk (and_mk (and_mk (and_mk (and_mk (and_mk (and_mk (and_mk (and_mk (and_mk (and_mk (and_mk (and_mk (and_mk (and_mk (and_mk (and_mk (and_mk (and_mk (and_mk (and_mk
    (by kernel_rfl) Try.laidOut) Try.fRowed) (by kernel_rfl)) (by kernel_rfl)) (by kernel_rfl)) Try.fStops) (by kernel_rfl)) Try.fKnobs) fnExactApply6_f1) fnExactApply6_f2) fnExactApply6_f3) fnExactApply6_f4)
    (by kernel_rfl)) (by kernel_rfl)) (by kernel_rfl)) (by kernel_rfl)) (by kernel_rfl)) (by kernel_rfl)) (by kernel_rfl)) (by kernel_rfl)) (by kernel_rfl)) Try.fKeys) (by kernel_rfl)) Try.fHeard) Try.fEnter) Try.fLifted) Try.fMake) (by kernel_rfl)) (by kernel_rfl)) (by kernel_rfl)) (by kernel_rfl)
theorem fnExactApply6_holds : Rows.FnExactApply6Said :=
  OpenClaim.holds_of_wide 8 Try.f8 rfl rfl rfl rfl rfl rfl rfl ⟨rfl, rfl, rfl, rfl, rfl⟩ rfl rfl rfl rfl rfl (by kernel_rfl) Try.func8 fnExactApply6_facts
    (of_decide_eq_true (by kernel_rfl)) (by unfold Func.isWrapper; first | (rw [if_pos (by decide +kernel)]; kernel_rfl) | (rw [if_neg (by decide +kernel)]; exact ⟨rfl, rfl⟩))
    (fun os started H enc _ => fnExactApply6_lifted os started H enc)
end Go.Proofs.Ytjilmfkglikoeaa
