import Derived.Test.YtjilmfkglikoeaaEngD
import Derived.Test.YtjilmfkglikoeaaB12Tie
import Derived.Test.YtjilmfkglikoeaaB12Fn
import Derived.Test.YtjilmfkglikoeaaFacts
/- WayOf: the cheapest way over a sea is told alike by the written-out search and by the built one, for every sea and all places. -/
set_option linter.unusedSimpArgs false
set_option linter.deprecated false
set_option linter.unusedSectionVars false
set_option linter.unusedVariables false
set_option maxRecDepth 100000
open Go Go.Proofs
noncomputable section
namespace Go.Sm.B12
abbrev S : List Nat := [116, 3, 55, 114, 272]
theorem wf_3 (x : Int) (h : ∀ d ∈ T.dget 3 x, WfD T d) : rng (-9223372036854775808) 9223372036854775807 x := by
  have h : ∀ d ∈ ([.int .i64 x] : List (D T.U)), WfD T d := h
  exact (WfD.i (h _ (.head _)))
theorem wf_272 (x : SClosed) (h : ∀ d ∈ T.dget 272 x, WfD T d) : wfSClosed x := by
  have h : ∀ d ∈ ([.int .i64 x.X0, .int .i64 x.Y0, .int .i64 x.X1, .int .i64 x.Y1, .int .i64 x.From, .int .i64 x.To] : List (D T.U)), WfD T d := h
  exact ⟨(WfD.i (h _ (.head _))), (WfD.i (h _ (.tail _ (.head _)))), (WfD.i (h _ (.tail _ (.tail _ (.head _))))), (WfD.i (h _ (.tail _ (.tail _ (.tail _ (.head _)))))), (WfD.i (h _ (.tail _ (.tail _ (.tail _ (.tail _ (.head _))))))), (WfD.i (h _ (.tail _ (.tail _ (.tail _ (.tail _ (.tail _ (.head _))))))))⟩
theorem wf_116 (x : SSea) (h : ∀ d ∈ T.dget 116 x, WfD T d) : wfSSea x := by
  have h : ∀ d ∈ ([.int .i64 x.Wide, .int .i64 x.High, .arr 3 x.Costs, .arr 272 x.Shut] : List (D T.U)), WfD T d := h
  exact ⟨(WfD.i (h _ (.head _))), (WfD.i (h _ (.tail _ (.head _)))), ⟨(WfD.a (h _ (.tail _ (.tail _ (.head _))))).1, fun y hy => wf_3 y ((WfD.a (h _ (.tail _ (.tail _ (.head _))))).2 y hy)⟩, ⟨(WfD.a (h _ (.tail _ (.tail _ (.tail _ (.head _)))))).1, fun y hy => wf_272 y ((WfD.a (h _ (.tail _ (.tail _ (.tail _ (.head _)))))).2 y hy)⟩⟩
theorem rd_116 : RdT T S 116 := by
  have hm : ∀ ds, SameL (T.dget 116 (T.dflt 116)) ds → ∃ x, T.dset 116 ds = some x := by
    intro ds h
    obtain ⟨c0, r0, rfl, ⟨b0, rfl⟩, h⟩ := h
    obtain ⟨c1, r1, rfl, ⟨b1, rfl⟩, h⟩ := h
    obtain ⟨c2, r2, rfl, ⟨b2, rfl⟩, h⟩ := h
    obtain ⟨c3, r3, rfl, ⟨b3, rfl⟩, h⟩ := h
    cases h
    exact some_of (by kernel_rfl)
  exact .ofStruct (fs := [(0, 3), (1, 3), (2, 55), (3, 114)]) (by kernel_rfl) hm (by kernel_rfl) (by kernel_rfl) (by kernel_rfl) (by decide)
theorem rd_3 : RdT T S 3 := by
  have hm : ∀ ds, SameL (T.dget 3 (T.dflt 3)) ds → ∃ x, T.dset 3 ds = some x := by
    intro ds h
    obtain ⟨c0, r0, rfl, ⟨b0, rfl⟩, h⟩ := h
    cases h
    exact some_of (by kernel_rfl)
  exact .ofInt (by kernel_rfl) hm rfl ⟨_, rfl⟩
theorem rd_55 : RdT T S 55 := by
  have hm : ∀ ds, SameL (T.dget 55 (T.dflt 55)) ds → ∃ x, T.dset 55 ds = some x := by
    intro ds h
    obtain ⟨c0, r0, rfl, ⟨b0, rfl⟩, h⟩ := h
    cases h
    exact some_of (by kernel_rfl)
  exact .ofSlice (e := 3) (by kernel_rfl) hm rfl ⟨_, rfl⟩ (by decide)
theorem rd_114 : RdT T S 114 := by
  have hm : ∀ ds, SameL (T.dget 114 (T.dflt 114)) ds → ∃ x, T.dset 114 ds = some x := by
    intro ds h
    obtain ⟨c0, r0, rfl, ⟨b0, rfl⟩, h⟩ := h
    cases h
    exact some_of (by kernel_rfl)
  exact .ofSlice (e := 272) (by kernel_rfl) hm rfl ⟨_, rfl⟩ (by decide)
theorem rd_272 : RdT T S 272 := by
  have hm : ∀ ds, SameL (T.dget 272 (T.dflt 272)) ds → ∃ x, T.dset 272 ds = some x := by
    intro ds h
    obtain ⟨c0, r0, rfl, ⟨b0, rfl⟩, h⟩ := h
    obtain ⟨c1, r1, rfl, ⟨b1, rfl⟩, h⟩ := h
    obtain ⟨c2, r2, rfl, ⟨b2, rfl⟩, h⟩ := h
    obtain ⟨c3, r3, rfl, ⟨b3, rfl⟩, h⟩ := h
    obtain ⟨c4, r4, rfl, ⟨b4, rfl⟩, h⟩ := h
    obtain ⟨c5, r5, rfl, ⟨b5, rfl⟩, h⟩ := h
    cases h
    exact some_of (by kernel_rfl)
  exact .ofStruct (fs := [(0, 3), (1, 3), (2, 3), (3, 3), (4, 3), (5, 3)]) (by kernel_rfl) hm (by kernel_rfl) (by kernel_rfl) (by kernel_rfl) (by decide)
theorem rds : ∀ t ∈ S, RdT T S t := List.forall_mem_cons.2 ⟨rd_116, List.forall_mem_cons.2 ⟨rd_3, List.forall_mem_cons.2 ⟨rd_55, List.forall_mem_cons.2 ⟨rd_114, List.forall_mem_cons.2 ⟨rd_272, fun _ h => nomatch h⟩⟩⟩⟩⟩
theorem law_call : ∀ ar, ArgsAre T Try.f12.params.toList ar → CallOk Try.prog T 12 ar (laws_FnExactWayOf_enc true) := by
  intro ar h
  rw [Try.params12] at h
  obtain ⟨y0, r0, rfl, w0, y1, r1, rfl, w1, y2, r2, rfl, w2, rfl⟩ := h
  obtain ⟨n, hn⟩ := laws_FnExactWayOf_true y0 y1 y2 (wf_116 y0 w0) (wf_3 y1 w1) (wf_3 y2 w2)
  exact call_of (phiE_nat _ _) (sem n 33) ok mixed Try.func12 (c := laws_FnExactWayOf_code) (by kernel_rfl) (laws_FnExactWayOf_lo n) (by kernel_rfl) (by kernel_rfl) (by kernel_rfl) laws_FnExactWayOf_de ((laws_FnExactWayOf_tie n y0 y1 y2).trans hn)
end Go.Sm.B12
namespace Go.Proofs.Ytjilmfkglikoeaa
open Go.ChangeShapes Go.WideShapes Go.ChangeAt Go.RowKit Go.Sm Go.Sm.B12
theorem fnExactWayOf_lifted (os : Os) (started : os.Started) (H : Type) (enc : TypeId × Value → H) :
    ReturnsInHanded {} Try.checked os 12 .any (Rows.fnExactWayOfSpec.pre6 enc Try.prog Try.f12 Rows.fnExactWayOfRow.domain false) (Rows.fnExactWayOfSpec.post enc Try.prog Try.f12 false true false false) := by
  refine returnsInHanded_of_change (C := Try.checked) Try.own started (by kernel_rfl) Try.func12
    (ChangeSpec.witness6 (enc := enc) (C := Try.checked) false ⟨#[], #[.agg #[.int .i64 0, .int .i64 0, .slice none 0 0, .slice none 0 0], .int .i64 0, .int .i64 0], []⟩ 8 (by kernel_rfl) (by kernel_rfl) (by kernel_rfl) (by kernel_rfl)) ?_
  intro W base args ds gs before hval hW _ _
  exact row_of (P := Try.prog) (T := T) (s := Rows.fnExactWayOfSpec) (fn := Try.f12) (tb := 4) ok rds Try.laidOut (by rw [Try.params12]; decide)
    (by rw [Try.params12]; exact List.forall_mem_cons.2 ⟨⟨by kernel_rfl, of_decide_eq_true (by kernel_rfl)⟩, List.forall_mem_cons.2 ⟨⟨by kernel_rfl, of_decide_eq_true (by kernel_rfl)⟩, List.forall_mem_cons.2 ⟨⟨by kernel_rfl, of_decide_eq_true (by kernel_rfl)⟩, fun _ h => nomatch h⟩⟩⟩) (by rw [Try.params12]; rfl) rfl (by rw [Try.params12]; intro ds h; match ds, h with | [d0, d1, d2], _ => rfl) (by rfl) Try.underlying4 hval hW rfl law_call
theorem fnExactWayOf_f1 : (Rows.fnExactWayOfRow.inPlace == Try.prog.inPlace 12) = true := by kernel_rfl
theorem fnExactWayOf_f2 : (Rows.fnExactWayOfRow.unfollowed == Try.prog.unfollowed 12) = true := by kernel_rfl
theorem fnExactWayOf_f3 : (Rows.fnExactWayOfRow.recurses == Try.prog.recurses 12) = true := by kernel_rfl
theorem fnExactWayOf_f4 : (Rows.fnExactWayOfRow.named == Try.prog.varsNamed 12) = true := by kernel_rfl
theorem fnExactWayOf_facts : joinedFacts Try.prog 12 Try.f12 Rows.fnExactWayOfSpec Rows.fnExactWayOfRow = true := by
  unfold joinedFacts
  exact and_mk (and_mk (and_mk (and_mk (and_mk (and_mk (and_mk (and_mk (and_mk (and_mk (and_mk (and_mk (and_mk (and_mk (and_mk (and_mk (and_mk (and_mk (and_mk (and_mk (and_mk (and_mk (and_mk (and_mk (and_mk (and_mk (and_mk (and_mk (and_mk (and_mk (and_mk
    (by kernel_rfl) Try.laidOut) Try.fRowed) (by kernel_rfl)) (by kernel_rfl)) (by kernel_rfl)) Try.fStops) (by kernel_rfl)) Try.fKnobs) fnExactWayOf_f1) fnExactWayOf_f2) fnExactWayOf_f3) fnExactWayOf_f4)
    (by kernel_rfl)) (by kernel_rfl)) (by kernel_rfl)) (by kernel_rfl)) (by kernel_rfl)) (by kernel_rfl)) (by kernel_rfl)) (by kernel_rfl)) (by kernel_rfl)) Try.fKeys) (by kernel_rfl)) Try.fHeard) Try.fEnter) Try.fLifted) Try.fMake) (by kernel_rfl)) (by kernel_rfl)) (by kernel_rfl)) (by kernel_rfl)
theorem fnExactWayOf_holds : Rows.FnExactWayOfSaid :=
  OpenClaim.holds_of_wide 12 Try.f12 rfl rfl rfl rfl rfl rfl rfl ⟨rfl, rfl, rfl, rfl, rfl⟩ rfl rfl rfl rfl rfl (by kernel_rfl) Try.func12 fnExactWayOf_facts
    (of_decide_eq_true (by kernel_rfl)) (by unfold Func.isWrapper; first | (rw [if_pos (by decide +kernel)]; kernel_rfl) | (rw [if_neg (by decide +kernel)]; exact ⟨rfl, rfl⟩))
    (fun os started H enc _ => fnExactWayOf_lifted os started H enc)
end Go.Proofs.Ytjilmfkglikoeaa
