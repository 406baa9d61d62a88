import Derived.Test.YtojjoinjabogbaaEngD
import Derived.Test.YtojjoinjabogbaaA9Tie
import Derived.Test.YtojjoinjabogbaaA9Fn
import Derived.Test.YtojjoinjabogbaaFacts
/- CargoRun: a run of cargo ops by the written-out step and by the built one are alike for all tanks, ops and leans. -/
set_option linter.unusedSimpArgs false
set_option linter.deprecated false
set_option linter.unusedSectionVars false
set_option linter.unusedVariables false
set_option maxRecDepth 100000
open Go Go.Proofs
noncomputable section
namespace Go.Sm.A9
abbrev S : List Nat := [82, 203, 3, 95, 84]
theorem wf_203 (x : SCargoTank) (h : ∀ d ∈ T.dget 203 x, WfD T d) : wfSCargoTank x := by
  have h : ∀ d ∈ ([.int .i64 x.Has, .int .i64 x.Most, .int .i64 x.Side, .int .i64 x.Gas, .int .i64 x.Air] : List (D T.U)), WfD T d := h
  exact ⟨(WfD.i (h _ (.head _))), (WfD.i (h _ (.tail _ (.head _)))), (WfD.i (h _ (.tail _ (.tail _ (.head _))))), (WfD.i (h _ (.tail _ (.tail _ (.tail _ (.head _)))))), (WfD.i (h _ (.tail _ (.tail _ (.tail _ (.tail _ (.head _)))))))⟩
theorem wf_82 (x : List SCargoTank) (h : ∀ d ∈ T.dget 82 x, WfD T d) : (x.length ≤ 9223372036854775807 ∧ ∀ y ∈ x, wfSCargoTank y) := by
  have h : ∀ d ∈ ([.arr 203 x] : List (D T.U)), WfD T d := h
  exact ⟨(WfD.a (h _ (.head _))).1, fun y hy => wf_203 y ((WfD.a (h _ (.head _))).2 y hy)⟩
theorem wf_84 (x : SCargoOp) (h : ∀ d ∈ T.dget 84 x, WfD T d) : wfSCargoOp x := by
  have h : ∀ d ∈ ([.int .i64 x.Kind, .int .i64 x.A, .int .i64 x.B, .int .i64 x.Many] : List (D T.U)), WfD T d := h
  exact ⟨(WfD.i (h _ (.head _))), (WfD.i (h _ (.tail _ (.head _)))), (WfD.i (h _ (.tail _ (.tail _ (.head _))))), (WfD.i (h _ (.tail _ (.tail _ (.tail _ (.head _))))))⟩
theorem wf_95 (x : List SCargoOp) (h : ∀ d ∈ T.dget 95 x, WfD T d) : (x.length ≤ 9223372036854775807 ∧ ∀ y ∈ x, wfSCargoOp y) := by
  have h : ∀ d ∈ ([.arr 84 x] : List (D T.U)), WfD T d := h
  exact ⟨(WfD.a (h _ (.head _))).1, fun y hy => wf_84 y ((WfD.a (h _ (.head _))).2 y hy)⟩
theorem wf_3 (x : Int) (h : ∀ d ∈ T.dget 3 x, WfD T d) : rng (-9223372036854775808) 9223372036854775807 x := by
  have h : ∀ d ∈ ([.int .i64 x] : List (D T.U)), WfD T d := h
  exact (WfD.i (h _ (.head _)))
theorem rd_82 : RdT T S 82 := by
  have hm : ∀ ds, SameL (T.dget 82 (T.dflt 82)) ds → ∃ x, T.dset 82 ds = some x := by
    intro ds h
    obtain ⟨c0, r0, rfl, ⟨b0, rfl⟩, h⟩ := h
    cases h
    exact some_of (by kernel_rfl)
  exact .ofSlice (e := 203) (by kernel_rfl) hm rfl ⟨_, rfl⟩ (by decide)
theorem rd_203 : RdT T S 203 := by
  have hm : ∀ ds, SameL (T.dget 203 (T.dflt 203)) ds → ∃ x, T.dset 203 ds = some x := by
    intro ds h
    obtain ⟨c0, r0, rfl, ⟨b0, rfl⟩, h⟩ := h
    obtain ⟨c1, r1, rfl, ⟨b1, rfl⟩, h⟩ := h
    obtain ⟨c2, r2, rfl, ⟨b2, rfl⟩, h⟩ := h
    obtain ⟨c3, r3, rfl, ⟨b3, rfl⟩, h⟩ := h
    obtain ⟨c4, r4, rfl, ⟨b4, rfl⟩, h⟩ := h
    cases h
    exact some_of (by kernel_rfl)
  exact .ofStruct (fs := [(0, 3), (1, 3), (2, 3), (3, 3), (4, 3)]) (by kernel_rfl) hm (by kernel_rfl) (by kernel_rfl) (by kernel_rfl) (by decide)
theorem rd_3 : RdT T S 3 := by
  have hm : ∀ ds, SameL (T.dget 3 (T.dflt 3)) ds → ∃ x, T.dset 3 ds = some x := by
    intro ds h
    obtain ⟨c0, r0, rfl, ⟨b0, rfl⟩, h⟩ := h
    cases h
    exact some_of (by kernel_rfl)
  exact .ofInt (by kernel_rfl) hm rfl ⟨_, rfl⟩
theorem rd_95 : RdT T S 95 := by
  have hm : ∀ ds, SameL (T.dget 95 (T.dflt 95)) ds → ∃ x, T.dset 95 ds = some x := by
    intro ds h
    obtain ⟨c0, r0, rfl, ⟨b0, rfl⟩, h⟩ := h
    cases h
    exact some_of (by kernel_rfl)
  exact .ofSlice (e := 84) (by kernel_rfl) hm rfl ⟨_, rfl⟩ (by decide)
theorem rd_84 : RdT T S 84 := by
  have hm : ∀ ds, SameL (T.dget 84 (T.dflt 84)) ds → ∃ x, T.dset 84 ds = some x := by
    intro ds h
    obtain ⟨c0, r0, rfl, ⟨b0, rfl⟩, h⟩ := h
    obtain ⟨c1, r1, rfl, ⟨b1, rfl⟩, h⟩ := h
    obtain ⟨c2, r2, rfl, ⟨b2, rfl⟩, h⟩ := h
    obtain ⟨c3, r3, rfl, ⟨b3, rfl⟩, h⟩ := h
    cases h
    exact some_of (by kernel_rfl)
  exact .ofStruct (fs := [(0, 3), (1, 3), (2, 3), (3, 3)]) (by kernel_rfl) hm (by kernel_rfl) (by kernel_rfl) (by kernel_rfl) (by decide)
theorem rds : ∀ t ∈ S, RdT T S t := List.forall_mem_cons.2 ⟨rd_82, List.forall_mem_cons.2 ⟨rd_203, List.forall_mem_cons.2 ⟨rd_3, List.forall_mem_cons.2 ⟨rd_95, List.forall_mem_cons.2 ⟨rd_84, fun _ h => nomatch h⟩⟩⟩⟩⟩
theorem law_call : ∀ ar, ArgsAre T Try.f9.params.toList ar → CallOk Try.prog T 9 ar (laws_FnExactCargoRun_enc true) := by
  intro ar h
  rw [Try.params9] at h
  obtain ⟨y0, r0, rfl, w0, y1, r1, rfl, w1, y2, r2, rfl, w2, rfl⟩ := h
  obtain ⟨n, hn⟩ := laws_FnExactCargoRun_true y0 y1 y2 (wf_82 y0 w0) (wf_95 y1 w1) (wf_3 y2 w2)
  exact call_of (phiE_nat _ _) (sem n 39) ok mixed Try.func9 (c := laws_FnExactCargoRun_code) (by kernel_rfl) (laws_FnExactCargoRun_lo n) (by kernel_rfl) (by kernel_rfl) (by kernel_rfl) laws_FnExactCargoRun_de ((laws_FnExactCargoRun_tie n y0 y1 y2).trans hn)
end Go.Sm.A9
namespace Go.Proofs.Ytojjoinjabogbaa
open Go.ChangeShapes Go.WideShapes Go.ChangeAt Go.RowKit Go.Sm Go.Sm.A9
theorem fnExactCargoRun_lifted (os : Os) (started : os.Started) (H : Type) (enc : TypeId × Value → H) :
    ReturnsInHanded {} Try.checked os 9 .any (Rows.fnExactCargoRunSpec.pre6 enc Try.prog Try.f9 Rows.fnExactCargoRunRow.domain false) (Rows.fnExactCargoRunSpec.post enc Try.prog Try.f9 false true false false) := by
  refine returnsInHanded_of_change (C := Try.checked) Try.own started (by kernel_rfl) Try.func9
    (ChangeSpec.witness6 (enc := enc) (C := Try.checked) false ⟨#[], #[.slice none 0 0, .slice none 0 0, .int .i64 0], []⟩ 8 (by kernel_rfl) (by kernel_rfl) (by kernel_rfl) (by kernel_rfl)) ?_
  intro W base args ds gs before hval hW _ _
  exact row_of (P := Try.prog) (T := T) (s := Rows.fnExactCargoRunSpec) (fn := Try.f9) (tb := 4) ok rds Try.laidOut (by rw [Try.params9]; decide)
    (by rw [Try.params9]; exact List.forall_mem_cons.2 ⟨⟨by kernel_rfl, of_decide_eq_true (by kernel_rfl)⟩, List.forall_mem_cons.2 ⟨⟨by kernel_rfl, of_decide_eq_true (by kernel_rfl)⟩, List.forall_mem_cons.2 ⟨⟨by kernel_rfl, of_decide_eq_true (by kernel_rfl)⟩, fun _ h => nomatch h⟩⟩⟩) (by rw [Try.params9]; rfl) rfl (by rw [Try.params9]; intro ds h; match ds, h with | [d0, d1, d2], _ => rfl) (by rfl) Try.underlying4 hval hW rfl law_call
theorem fnExactCargoRun_f1 : (Rows.fnExactCargoRunRow.inPlace == Try.prog.inPlace 9) = true := by kernel_rfl
theorem fnExactCargoRun_f2 : (Rows.fnExactCargoRunRow.unfollowed == Try.prog.unfollowed 9) = true := by kernel_rfl
theorem fnExactCargoRun_f3 : (Rows.fnExactCargoRunRow.recurses == Try.prog.recurses 9) = true := by kernel_rfl
theorem fnExactCargoRun_f4 : (Rows.fnExactCargoRunRow.named == Try.prog.varsNamed 9) = true := by kernel_rfl
theorem fnExactCargoRun_facts : joinedFacts Try.prog 9 Try.f9 Rows.fnExactCargoRunSpec Rows.fnExactCargoRunRow = true := by
  unfold joinedFacts
  exact and_mk (and_mk (and_mk (and_mk (and_mk (and_mk (and_mk (and_mk (and_mk (and_mk (and_mk (and_mk (and_mk (and_mk (and_mk (and_mk (and_mk (and_mk (and_mk (and_mk (and_mk (and_mk (and_mk (and_mk (and_mk (and_mk (and_mk (and_mk (and_mk (and_mk (and_mk
    (by kernel_rfl) Try.laidOut) Try.fRowed) (by kernel_rfl)) (by kernel_rfl)) (by kernel_rfl)) Try.fStops) (by kernel_rfl)) Try.fKnobs) fnExactCargoRun_f1) fnExactCargoRun_f2) fnExactCargoRun_f3) fnExactCargoRun_f4)
    (by kernel_rfl)) (by kernel_rfl)) (by kernel_rfl)) (by kernel_rfl)) (by kernel_rfl)) (by kernel_rfl)) (by kernel_rfl)) (by kernel_rfl)) (by kernel_rfl)) Try.fKeys) (by kernel_rfl)) Try.fHeard) Try.fEnter) Try.fLifted) Try.fMake) (by kernel_rfl)) (by kernel_rfl)) (by kernel_rfl)) (by kernel_rfl)
theorem fnExactCargoRun_holds : Rows.FnExactCargoRunSaid :=
  OpenClaim.holds_of_wide 9 Try.f9 rfl rfl rfl rfl rfl rfl rfl ⟨rfl, rfl, rfl, rfl, rfl⟩ rfl rfl rfl rfl rfl (by kernel_rfl) Try.func9 fnExactCargoRun_facts
    (of_decide_eq_true (by kernel_rfl)) (by unfold Func.isWrapper; first | (rw [if_pos (by decide +kernel)]; kernel_rfl) | (rw [if_neg (by decide +kernel)]; exact ⟨rfl, rfl⟩))
    (fun os started H enc _ => fnExactCargoRun_lifted os started H enc)
end Go.Proofs.Ytojjoinjabogbaa
