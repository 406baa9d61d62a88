import Derived.Test.YtjilmfkglikoeaaEngD
import Derived.Test.YtjilmfkglikoeaaB9Tie
import Derived.Test.YtjilmfkglikoeaaB9Fn
import Derived.Test.YtjilmfkglikoeaaFacts
/- Catch: what is left of a chart and of a list of updates by taking them as they fit, and which are left over, are the same written out and built, for every chart and list. -/
set_option linter.unusedSimpArgs false
set_option linter.deprecated false
set_option linter.unusedSectionVars false
set_option linter.unusedVariables false
set_option maxRecDepth 100000
open Go Go.Proofs
noncomputable section
namespace Go.Sm.B9
abbrev S : List Nat := [58, 3, 55, 56, 251, 9, 90, 80, 78, 260]
theorem wf_3 (x : Int) (h : ∀ d ∈ T.dget 3 x, WfD T d) : rng (-9223372036854775808) 9223372036854775807 x := by
  have h : ∀ d ∈ ([.int .i64 x] : List (D T.U)), WfD T d := h
  exact (WfD.i (h _ (.head _)))
theorem wf_251 (x : SFeature) (h : ∀ d ∈ T.dget 251 x, WfD T d) : wfSFeature x := by
  have h : ∀ d ∈ ([.int .i64 x.Id, .int .i64 x.Kind, .int .i64 x.X, .int .i64 x.Y, .str x.Text] : List (D T.U)), WfD T d := h
  exact ⟨(WfD.i (h _ (.head _))), (WfD.i (h _ (.tail _ (.head _)))), (WfD.i (h _ (.tail _ (.tail _ (.head _))))), (WfD.i (h _ (.tail _ (.tail _ (.tail _ (.head _)))))), (WfD.s (h _ (.tail _ (.tail _ (.tail _ (.tail _ (.head _)))))))⟩
theorem wf_58 (x : SChart) (h : ∀ d ∈ T.dget 58 x, WfD T d) : wfSChart x := by
  have h : ∀ d ∈ ([.int .i64 x.Wide, .int .i64 x.High, .arr 3 x.Depths, .arr 251 x.Features, .int .i64 x.Edition] : List (D T.U)), WfD T d := h
  exact ⟨(WfD.i (h _ (.head _))), (WfD.i (h _ (.tail _ (.head _)))), ⟨(WfD.a (h _ (.tail _ (.tail _ (.head _))))).1, fun y hy => wf_3 y ((WfD.a (h _ (.tail _ (.tail _ (.head _))))).2 y hy)⟩, ⟨(WfD.a (h _ (.tail _ (.tail _ (.tail _ (.head _)))))).1, fun y hy => wf_251 y ((WfD.a (h _ (.tail _ (.tail _ (.tail _ (.head _)))))).2 y hy)⟩, (WfD.i (h _ (.tail _ (.tail _ (.tail _ (.tail _ (.head _)))))))⟩
theorem wf_260 (x : SNote) (h : ∀ d ∈ T.dget 260 x, WfD T d) : wfSNote x := by
  have h : ∀ d ∈ ([.int .i64 x.Kind, .int .i64 x.Id, .int .i64 x.X, .int .i64 x.Y, .int .i64 x.Depth, .str x.Text, .int .i64 x.Sort_] : List (D T.U)), WfD T d := h
  exact ⟨(WfD.i (h _ (.head _))), (WfD.i (h _ (.tail _ (.head _)))), (WfD.i (h _ (.tail _ (.tail _ (.head _))))), (WfD.i (h _ (.tail _ (.tail _ (.tail _ (.head _)))))), (WfD.i (h _ (.tail _ (.tail _ (.tail _ (.tail _ (.head _))))))), (WfD.s (h _ (.tail _ (.tail _ (.tail _ (.tail _ (.tail _ (.head _)))))))), (WfD.i (h _ (.tail _ (.tail _ (.tail _ (.tail _ (.tail _ (.tail _ (.head _)))))))))⟩
theorem wf_80 (x : SUpdate) (h : ∀ d ∈ T.dget 80 x, WfD T d) : wfSUpdate x := by
  have h : ∀ d ∈ ([.int .i64 x.Edition, .arr 260 x.Notes] : List (D T.U)), WfD T d := h
  exact ⟨(WfD.i (h _ (.head _))), ⟨(WfD.a (h _ (.tail _ (.head _)))).1, fun y hy => wf_260 y ((WfD.a (h _ (.tail _ (.head _)))).2 y hy)⟩⟩
theorem wf_90 (x : List SUpdate) (h : ∀ d ∈ T.dget 90 x, WfD T d) : (x.length ≤ 9223372036854775807 ∧ ∀ y ∈ x, wfSUpdate y) := by
  have h : ∀ d ∈ ([.arr 80 x] : List (D T.U)), WfD T d := h
  exact ⟨(WfD.a (h _ (.head _))).1, fun y hy => wf_80 y ((WfD.a (h _ (.head _))).2 y hy)⟩
theorem rd_58 : RdT T S 58 := by
  have hm : ∀ ds, SameL (T.dget 58 (T.dflt 58)) ds → ∃ x, T.dset 58 ds = some x := by
    intro ds h
    obtain ⟨c0, r0, rfl, ⟨b0, rfl⟩, h⟩ := h
    obtain ⟨c1, r1, rfl, ⟨b1, rfl⟩, h⟩ := h
    obtain ⟨c2, r2, rfl, ⟨b2, rfl⟩, h⟩ := h
    obtain ⟨c3, r3, rfl, ⟨b3, rfl⟩, h⟩ := h
    obtain ⟨c4, r4, rfl, ⟨b4, rfl⟩, h⟩ := h
    cases h
    exact some_of (by kernel_rfl)
  exact .ofStruct (fs := [(0, 3), (1, 3), (2, 55), (3, 56), (4, 3)]) (by kernel_rfl) hm (by kernel_rfl) (by kernel_rfl) (by kernel_rfl) (by decide)
theorem rd_3 : RdT T S 3 := by
  have hm : ∀ ds, SameL (T.dget 3 (T.dflt 3)) ds → ∃ x, T.dset 3 ds = some x := by
    intro ds h
    obtain ⟨c0, r0, rfl, ⟨b0, rfl⟩, h⟩ := h
    cases h
    exact some_of (by kernel_rfl)
  exact .ofInt (by kernel_rfl) hm rfl ⟨_, rfl⟩
theorem rd_55 : RdT T S 55 := by
  have hm : ∀ ds, SameL (T.dget 55 (T.dflt 55)) ds → ∃ x, T.dset 55 ds = some x := by
    intro ds h
    obtain ⟨c0, r0, rfl, ⟨b0, rfl⟩, h⟩ := h
    cases h
    exact some_of (by kernel_rfl)
  exact .ofSlice (e := 3) (by kernel_rfl) hm rfl ⟨_, rfl⟩ (by decide)
theorem rd_56 : RdT T S 56 := by
  have hm : ∀ ds, SameL (T.dget 56 (T.dflt 56)) ds → ∃ x, T.dset 56 ds = some x := by
    intro ds h
    obtain ⟨c0, r0, rfl, ⟨b0, rfl⟩, h⟩ := h
    cases h
    exact some_of (by kernel_rfl)
  exact .ofSlice (e := 251) (by kernel_rfl) hm rfl ⟨_, rfl⟩ (by decide)
theorem rd_251 : RdT T S 251 := by
  have hm : ∀ ds, SameL (T.dget 251 (T.dflt 251)) ds → ∃ x, T.dset 251 ds = some x := by
    intro ds h
    obtain ⟨c0, r0, rfl, ⟨b0, rfl⟩, h⟩ := h
    obtain ⟨c1, r1, rfl, ⟨b1, rfl⟩, h⟩ := h
    obtain ⟨c2, r2, rfl, ⟨b2, rfl⟩, h⟩ := h
    obtain ⟨c3, r3, rfl, ⟨b3, rfl⟩, h⟩ := h
    obtain ⟨c4, r4, rfl, ⟨b4, rfl⟩, h⟩ := h
    cases h
    exact some_of (by kernel_rfl)
  exact .ofStruct (fs := [(0, 3), (1, 3), (2, 3), (3, 3), (4, 9)]) (by kernel_rfl) hm (by kernel_rfl) (by kernel_rfl) (by kernel_rfl) (by decide)
theorem rd_9 : RdT T S 9 := by
  have hm : ∀ ds, SameL (T.dget 9 (T.dflt 9)) ds → ∃ x, T.dset 9 ds = some x := by
    intro ds h
    obtain ⟨c0, r0, rfl, ⟨b0, rfl⟩, h⟩ := h
    cases h
    exact some_of (by kernel_rfl)
  exact .ofStr (by kernel_rfl) hm rfl ⟨_, rfl⟩
theorem rd_90 : RdT T S 90 := by
  have hm : ∀ ds, SameL (T.dget 90 (T.dflt 90)) ds → ∃ x, T.dset 90 ds = some x := by
    intro ds h
    obtain ⟨c0, r0, rfl, ⟨b0, rfl⟩, h⟩ := h
    cases h
    exact some_of (by kernel_rfl)
  exact .ofSlice (e := 80) (by kernel_rfl) hm rfl ⟨_, rfl⟩ (by decide)
theorem rd_80 : RdT T S 80 := by
  have hm : ∀ ds, SameL (T.dget 80 (T.dflt 80)) ds → ∃ x, T.dset 80 ds = some x := by
    intro ds h
    obtain ⟨c0, r0, rfl, ⟨b0, rfl⟩, h⟩ := h
    obtain ⟨c1, r1, rfl, ⟨b1, rfl⟩, h⟩ := h
    cases h
    exact some_of (by kernel_rfl)
  exact .ofStruct (fs := [(0, 3), (1, 78)]) (by kernel_rfl) hm (by kernel_rfl) (by kernel_rfl) (by kernel_rfl) (by decide)
theorem rd_78 : RdT T S 78 := by
  have hm : ∀ ds, SameL (T.dget 78 (T.dflt 78)) ds → ∃ x, T.dset 78 ds = some x := by
    intro ds h
    obtain ⟨c0, r0, rfl, ⟨b0, rfl⟩, h⟩ := h
    cases h
    exact some_of (by kernel_rfl)
  exact .ofSlice (e := 260) (by kernel_rfl) hm rfl ⟨_, rfl⟩ (by decide)
theorem rd_260 : RdT T S 260 := by
  have hm : ∀ ds, SameL (T.dget 260 (T.dflt 260)) ds → ∃ x, T.dset 260 ds = some x := by
    intro ds h
    obtain ⟨c0, r0, rfl, ⟨b0, rfl⟩, h⟩ := h
    obtain ⟨c1, r1, rfl, ⟨b1, rfl⟩, h⟩ := h
    obtain ⟨c2, r2, rfl, ⟨b2, rfl⟩, h⟩ := h
    obtain ⟨c3, r3, rfl, ⟨b3, rfl⟩, h⟩ := h
    obtain ⟨c4, r4, rfl, ⟨b4, rfl⟩, h⟩ := h
    obtain ⟨c5, r5, rfl, ⟨b5, rfl⟩, h⟩ := h
    obtain ⟨c6, r6, rfl, ⟨b6, rfl⟩, h⟩ := h
    cases h
    exact some_of (by kernel_rfl)
  exact .ofStruct (fs := [(0, 3), (1, 3), (2, 3), (3, 3), (4, 3), (5, 9), (6, 3)]) (by kernel_rfl) hm (by kernel_rfl) (by kernel_rfl) (by kernel_rfl) (by decide)
theorem rds : ∀ t ∈ S, RdT T S t := List.forall_mem_cons.2 ⟨rd_58, List.forall_mem_cons.2 ⟨rd_3, List.forall_mem_cons.2 ⟨rd_55, List.forall_mem_cons.2 ⟨rd_56, List.forall_mem_cons.2 ⟨rd_251, List.forall_mem_cons.2 ⟨rd_9, List.forall_mem_cons.2 ⟨rd_90, List.forall_mem_cons.2 ⟨rd_80, List.forall_mem_cons.2 ⟨rd_78, List.forall_mem_cons.2 ⟨rd_260, fun _ h => nomatch h⟩⟩⟩⟩⟩⟩⟩⟩⟩⟩
theorem law_call : ∀ ar, ArgsAre T Try.f9.params.toList ar → CallOk Try.prog T 9 ar (laws_FnExactCatch_enc true) := by
  intro ar h
  rw [Try.params9] at h
  obtain ⟨y0, r0, rfl, w0, y1, r1, rfl, w1, rfl⟩ := h
  obtain ⟨n, hn⟩ := laws_FnExactCatch_true y0 y1 (wf_58 y0 w0) (wf_90 y1 w1)
  exact call_of (phiE_nat _ _) (sem n 63) ok mixed Try.func9 (c := laws_FnExactCatch_code) (by kernel_rfl) (laws_FnExactCatch_lo n) (by kernel_rfl) (by kernel_rfl) (by kernel_rfl) laws_FnExactCatch_de ((laws_FnExactCatch_tie n y0 y1).trans hn)
end Go.Sm.B9
namespace Go.Proofs.Ytjilmfkglikoeaa
open Go.ChangeShapes Go.WideShapes Go.ChangeAt Go.RowKit Go.Sm Go.Sm.B9
theorem fnExactCatch_lifted (os : Os) (started : os.Started) (H : Type) (enc : TypeId × Value → H) :
    ReturnsInHanded {} Try.checked os 9 .any (Rows.fnExactCatchSpec.pre6 enc Try.prog Try.f9 Rows.fnExactCatchRow.domain false) (Rows.fnExactCatchSpec.post enc Try.prog Try.f9 false true false false) := by
  refine returnsInHanded_of_change (C := Try.checked) Try.own started (by kernel_rfl) Try.func9
    (ChangeSpec.witness6 (enc := enc) (C := Try.checked) false ⟨#[], #[.agg #[.int .i64 0, .int .i64 0, .slice none 0 0, .slice none 0 0, .int .i64 0], .slice none 0 0], []⟩ 8 (by kernel_rfl) (by kernel_rfl) (by kernel_rfl) (by kernel_rfl)) ?_
  intro W base args ds gs before hval hW _ _
  exact row_of (P := Try.prog) (T := T) (s := Rows.fnExactCatchSpec) (fn := Try.f9) (tb := 4) ok rds Try.laidOut (by rw [Try.params9]; decide)
    (by rw [Try.params9]; exact List.forall_mem_cons.2 ⟨⟨by kernel_rfl, of_decide_eq_true (by kernel_rfl)⟩, List.forall_mem_cons.2 ⟨⟨by kernel_rfl, of_decide_eq_true (by kernel_rfl)⟩, fun _ h => nomatch h⟩⟩) (by rw [Try.params9]; rfl) rfl (by rw [Try.params9]; intro ds h; match ds, h with | [d0, d1], _ => rfl) (by rfl) Try.underlying4 hval hW rfl law_call
theorem fnExactCatch_f1 : (Rows.fnExactCatchRow.inPlace == Try.prog.inPlace 9) = true := by kernel_rfl
theorem fnExactCatch_f2 : (Rows.fnExactCatchRow.unfollowed == Try.prog.unfollowed 9) = true := by kernel_rfl
theorem fnExactCatch_f3 : (Rows.fnExactCatchRow.recurses == Try.prog.recurses 9) = true := by kernel_rfl
theorem fnExactCatch_f4 : (Rows.fnExactCatchRow.named == Try.prog.varsNamed 9) = true := by kernel_rfl
theorem fnExactCatch_facts : joinedFacts Try.prog 9 Try.f9 Rows.fnExactCatchSpec Rows.fnExactCatchRow = true := by
  unfold joinedFacts
  exact and_mk (and_mk (and_mk (and_mk (and_mk (and_mk (and_mk (and_mk (and_mk (and_mk (and_mk (and_mk (and_mk (and_mk (and_mk (and_mk (and_mk (and_mk (and_mk (and_mk (and_mk (and_mk (and_mk (and_mk (and_mk (and_mk (and_mk (and_mk (and_mk (and_mk (and_mk
    (by kernel_rfl) Try.laidOut) Try.fRowed) (by kernel_rfl)) (by kernel_rfl)) (by kernel_rfl)) Try.fStops) (by kernel_rfl)) Try.fKnobs) fnExactCatch_f1) fnExactCatch_f2) fnExactCatch_f3) fnExactCatch_f4)
    (by kernel_rfl)) (by kernel_rfl)) (by kernel_rfl)) (by kernel_rfl)) (by kernel_rfl)) (by kernel_rfl)) (by kernel_rfl)) (by kernel_rfl)) (by kernel_rfl)) Try.fKeys) (by kernel_rfl)) Try.fHeard) Try.fEnter) Try.fLifted) Try.fMake) (by kernel_rfl)) (by kernel_rfl)) (by kernel_rfl)) (by kernel_rfl)
theorem fnExactCatch_holds : Rows.FnExactCatchSaid :=
  OpenClaim.holds_of_wide 9 Try.f9 rfl rfl rfl rfl rfl rfl rfl ⟨rfl, rfl, rfl, rfl, rfl⟩ rfl rfl rfl rfl rfl (by kernel_rfl) Try.func9 fnExactCatch_facts
    (of_decide_eq_true (by kernel_rfl)) (by unfold Func.isWrapper; first | (rw [if_pos (by decide +kernel)]; kernel_rfl) | (rw [if_neg (by decide +kernel)]; exact ⟨rfl, rfl⟩))
    (fun os started H enc _ => fnExactCatch_lifted os started H enc)
end Go.Proofs.Ytjilmfkglikoeaa
