import Derived.Test.YtojjoinjabogbaaEngC
import Derived.Test.YtojjoinjabogbaaA6Tie
import Derived.Test.YtojjoinjabogbaaA6Fn
import Derived.Test.YtojjoinjabogbaaFacts
/- Proved here: laws.FnExactRunSignals returns true for every hoist and every list of signals, and leaves its arguments as they were; no conditions. -/
set_option linter.unusedSimpArgs false
set_option linter.deprecated false
set_option linter.unusedSectionVars false
set_option linter.unusedVariables false
set_option maxRecDepth 100000
open Go Go.Proofs
noncomputable section
namespace Go.Sm.A6
abbrev S : List Nat := [51, 3, 52, 180]
theorem wf_51 (x : SHoist) (h : ∀ d ∈ T.dget 51 x, WfD T d) : wfSHoist x := by
  have h : ∀ d ∈ ([.int .i64 x.State, .int .i64 x.Load, .int .i64 x.Height, .int .i64 x.Lowest, .int .i64 x.Highest, .int .i64 x.Limit, .int .i64 x.Reset] : List (D T.U)), WfD T d := h
  exact ⟨(WfD.i (h _ (.head _))), (WfD.i (h _ (.tail _ (.head _)))), (WfD.i (h _ (.tail _ (.tail _ (.head _))))), (WfD.i (h _ (.tail _ (.tail _ (.tail _ (.head _)))))), (WfD.i (h _ (.tail _ (.tail _ (.tail _ (.tail _ (.head _))))))), (WfD.i (h _ (.tail _ (.tail _ (.tail _ (.tail _ (.tail _ (.head _)))))))), (WfD.i (h _ (.tail _ (.tail _ (.tail _ (.tail _ (.tail _ (.tail _ (.head _)))))))))⟩
theorem wf_180 (x : SSignal) (h : ∀ d ∈ T.dget 180 x, WfD T d) : wfSSignal x := by
  have h : ∀ d ∈ ([.int .i64 x.Kind, .int .i64 x.Many] : List (D T.U)), WfD T d := h
  exact ⟨(WfD.i (h _ (.head _))), (WfD.i (h _ (.tail _ (.head _))))⟩
theorem wf_52 (x : List SSignal) (h : ∀ d ∈ T.dget 52 x, WfD T d) : (x.length ≤ 9223372036854775807 ∧ ∀ y ∈ x, wfSSignal y) := by
  have h : ∀ d ∈ ([.arr 180 x] : List (D T.U)), WfD T d := h
  exact ⟨(WfD.a (h _ (.head _))).1, fun y hy => wf_180 y ((WfD.a (h _ (.head _))).2 y hy)⟩
theorem rd_51 : RdT T S 51 := by
  have hm : ∀ ds, SameL (T.dget 51 (T.dflt 51)) ds → ∃ x, T.dset 51 ds = some x := by
    intro ds h
    obtain ⟨c0, r0, rfl, ⟨b0, rfl⟩, h⟩ := h
    obtain ⟨c1, r1, rfl, ⟨b1, rfl⟩, h⟩ := h
    obtain ⟨c2, r2, rfl, ⟨b2, rfl⟩, h⟩ := h
    obtain ⟨c3, r3, rfl, ⟨b3, rfl⟩, h⟩ := h
    obtain ⟨c4, r4, rfl, ⟨b4, rfl⟩, h⟩ := h
    obtain ⟨c5, r5, rfl, ⟨b5, rfl⟩, h⟩ := h
    obtain ⟨c6, r6, rfl, ⟨b6, rfl⟩, h⟩ := h
    cases h
    exact some_of (by kernel_rfl)
  exact .ofStruct (fs := [(0, 3), (1, 3), (2, 3), (3, 3), (4, 3), (5, 3), (6, 3)]) (by kernel_rfl) hm (by kernel_rfl) (by kernel_rfl) (by kernel_rfl) (by decide)
theorem rd_3 : RdT T S 3 := by
  have hm : ∀ ds, SameL (T.dget 3 (T.dflt 3)) ds → ∃ x, T.dset 3 ds = some x := by
    intro ds h
    obtain ⟨c0, r0, rfl, ⟨b0, rfl⟩, h⟩ := h
    cases h
    exact some_of (by kernel_rfl)
  exact .ofInt (by kernel_rfl) hm rfl ⟨_, rfl⟩
theorem rd_52 : RdT T S 52 := by
  have hm : ∀ ds, SameL (T.dget 52 (T.dflt 52)) ds → ∃ x, T.dset 52 ds = some x := by
    intro ds h
    obtain ⟨c0, r0, rfl, ⟨b0, rfl⟩, h⟩ := h
    cases h
    exact some_of (by kernel_rfl)
  exact .ofSlice (e := 180) (by kernel_rfl) hm rfl ⟨_, rfl⟩ (by decide)
theorem rd_180 : RdT T S 180 := by
  have hm : ∀ ds, SameL (T.dget 180 (T.dflt 180)) ds → ∃ x, T.dset 180 ds = some x := by
    intro ds h
    obtain ⟨c0, r0, rfl, ⟨b0, rfl⟩, h⟩ := h
    obtain ⟨c1, r1, rfl, ⟨b1, rfl⟩, h⟩ := h
    cases h
    exact some_of (by kernel_rfl)
  exact .ofStruct (fs := [(0, 3), (1, 3)]) (by kernel_rfl) hm (by kernel_rfl) (by kernel_rfl) (by kernel_rfl) (by decide)
theorem rds : ∀ t ∈ S, RdT T S t := List.forall_mem_cons.2 ⟨rd_51, List.forall_mem_cons.2 ⟨rd_3, List.forall_mem_cons.2 ⟨rd_52, List.forall_mem_cons.2 ⟨rd_180, fun _ h => nomatch h⟩⟩⟩⟩
theorem law_call : ∀ ar, ArgsAre T Try.f6.params.toList ar → CallOk Try.prog T 6 ar (laws_FnExactRunSignals_enc true) := by
  intro ar h
  rw [Try.params6] at h
  obtain ⟨y0, r0, rfl, w0, y1, r1, rfl, w1, rfl⟩ := h
  obtain ⟨n, hn⟩ := laws_FnExactRunSignals_true y0 y1 (wf_51 y0 w0) (wf_52 y1 w1)
  exact call_of (phiE_nat _ _) (sem n 21) ok mixed Try.func6 (c := laws_FnExactRunSignals_code) (by kernel_rfl) (laws_FnExactRunSignals_lo n) (by kernel_rfl) (by kernel_rfl) (by kernel_rfl) laws_FnExactRunSignals_de ((laws_FnExactRunSignals_tie n y0 y1).trans hn)
end Go.Sm.A6
namespace Go.Proofs.Ytojjoinjabogbaa
open Go.ChangeShapes Go.WideShapes Go.ChangeAt Go.RowKit Go.Sm Go.Sm.A6
theorem fnExactRunSignals_lifted (os : Os) (started : os.Started) (H : Type) (enc : TypeId × Value → H) :
    ReturnsInHanded {} Try.checked os 6 .any (Rows.fnExactRunSignalsSpec.pre6 enc Try.prog Try.f6 Rows.fnExactRunSignalsRow.domain false) (Rows.fnExactRunSignalsSpec.post enc Try.prog Try.f6 false true false false) := by
  refine returnsInHanded_of_change (C := Try.checked) Try.own started (by kernel_rfl) Try.func6
    (ChangeSpec.witness6 (enc := enc) (C := Try.checked) false ⟨#[], #[.agg #[.int .i64 0, .int .i64 0, .int .i64 0, .int .i64 0, .int .i64 0, .int .i64 0, .int .i64 0], .slice none 0 0], []⟩ 8 (by kernel_rfl) (by kernel_rfl) (by kernel_rfl) (by kernel_rfl)) ?_
  intro W base args ds gs before hval hW _ _
  exact row_of (P := Try.prog) (T := T) (s := Rows.fnExactRunSignalsSpec) (fn := Try.f6) (tb := 4) ok rds Try.laidOut (by rw [Try.params6]; decide)
    (by rw [Try.params6]; exact List.forall_mem_cons.2 ⟨⟨by kernel_rfl, of_decide_eq_true (by kernel_rfl)⟩, List.forall_mem_cons.2 ⟨⟨by kernel_rfl, of_decide_eq_true (by kernel_rfl)⟩, fun _ h => nomatch h⟩⟩) (by rw [Try.params6]; rfl) rfl (by rw [Try.params6]; intro ds h; match ds, h with | [d0, d1], _ => rfl) (by rfl) Try.underlying4 hval hW rfl law_call
theorem fnExactRunSignals_f1 : (Rows.fnExactRunSignalsRow.inPlace == Try.prog.inPlace 6) = true := by kernel_rfl
theorem fnExactRunSignals_f2 : (Rows.fnExactRunSignalsRow.unfollowed == Try.prog.unfollowed 6) = true := by kernel_rfl
theorem fnExactRunSignals_f3 : (Rows.fnExactRunSignalsRow.recurses == Try.prog.recurses 6) = true := by kernel_rfl
theorem fnExactRunSignals_f4 : (Rows.fnExactRunSignalsRow.named == Try.prog.varsNamed 6) = true := by kernel_rfl
theorem fnExactRunSignals_facts : joinedFacts Try.prog 6 Try.f6 Rows.fnExactRunSignalsSpec Rows.fnExactRunSignalsRow = true := by
  unfold joinedFacts
  exact and_mk (and_mk (and_mk (and_mk (and_mk (and_mk (and_mk (and_mk (and_mk (and_mk (and_mk (and_mk (and_mk (and_mk (and_mk (and_mk (and_mk (and_mk (and_mk (and_mk (and_mk (and_mk (and_mk (and_mk (and_mk (and_mk (and_mk (and_mk (and_mk (and_mk (and_mk
    (by kernel_rfl) Try.laidOut) Try.fRowed) (by kernel_rfl)) (by kernel_rfl)) (by kernel_rfl)) Try.fStops) (by kernel_rfl)) Try.fKnobs) fnExactRunSignals_f1) fnExactRunSignals_f2) fnExactRunSignals_f3) fnExactRunSignals_f4)
    (by kernel_rfl)) (by kernel_rfl)) (by kernel_rfl)) (by kernel_rfl)) (by kernel_rfl)) (by kernel_rfl)) (by kernel_rfl)) (by kernel_rfl)) (by kernel_rfl)) Try.fKeys) (by kernel_rfl)) Try.fHeard) Try.fEnter) Try.fLifted) Try.fMake) (by kernel_rfl)) (by kernel_rfl)) (by kernel_rfl)) (by kernel_rfl)
theorem fnExactRunSignals_holds : Rows.FnExactRunSignalsSaid :=
  OpenClaim.holds_of_wide 6 Try.f6 rfl rfl rfl rfl rfl rfl rfl ⟨rfl, rfl, rfl, rfl, rfl⟩ rfl rfl rfl rfl rfl (by kernel_rfl) Try.func6 fnExactRunSignals_facts
    (of_decide_eq_true (by kernel_rfl)) (by unfold Func.isWrapper; first | (rw [if_pos (by decide +kernel)]; kernel_rfl) | (rw [if_neg (by decide +kernel)]; exact ⟨rfl, rfl⟩))
    (fun os started H enc _ => fnExactRunSignals_lifted os started H enc)
end Go.Proofs.Ytojjoinjabogbaa
