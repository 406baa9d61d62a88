import Derived.Test.YtakllmgiobpmgaaEngD
import Derived.Test.YtakllmgiobpmgaaE5Tie
import Derived.Test.YtakllmgiobpmgaaE5Fn
import Derived.Test.YtakllmgiobpmgaaFacts
/- BerthAll: of all quays and calls the written-out way and the built one berth the same calls at the same places. -/
set_option linter.unusedSimpArgs false
set_option linter.deprecated false
set_option linter.unusedSectionVars false
set_option linter.unusedVariables false
set_option maxRecDepth 100000
open Go Go.Proofs
noncomputable section
namespace Go.Sm.E5
abbrev S : List Nat := [3, 42, 133]
theorem wf_3 (x : Int) (h : ∀ d ∈ T.dget 3 x, WfD T d) : rng (-9223372036854775808) 9223372036854775807 x := by
  have h : ∀ d ∈ ([.int .i64 x] : List (D T.U)), WfD T d := h
  exact (WfD.i (h _ (.head _)))
theorem wf_133 (x : SCall) (h : ∀ d ∈ T.dget 133 x, WfD T d) : wfSCall x := by
  have h : ∀ d ∈ ([.int .i64 x.Id, .int .i64 x.Long, .int .i64 x.From, .int .i64 x.To, .int .i64 x.At] : List (D T.U)), WfD T d := h
  exact ⟨(WfD.i (h _ (.head _))), (WfD.i (h _ (.tail _ (.head _)))), (WfD.i (h _ (.tail _ (.tail _ (.head _))))), (WfD.i (h _ (.tail _ (.tail _ (.tail _ (.head _)))))), (WfD.i (h _ (.tail _ (.tail _ (.tail _ (.tail _ (.head _)))))))⟩
theorem wf_42 (x : List SCall) (h : ∀ d ∈ T.dget 42 x, WfD T d) : (x.length ≤ 9223372036854775807 ∧ ∀ y ∈ x, wfSCall y) := by
  have h : ∀ d ∈ ([.arr 133 x] : List (D T.U)), WfD T d := h
  exact ⟨(WfD.a (h _ (.head _))).1, fun y hy => wf_133 y ((WfD.a (h _ (.head _))).2 y hy)⟩
theorem rd_3 : RdT T S 3 := by
  have hm : ∀ ds, SameL (T.dget 3 (T.dflt 3)) ds → ∃ x, T.dset 3 ds = some x := by
    intro ds h
    obtain ⟨c0, r0, rfl, ⟨b0, rfl⟩, h⟩ := h
    cases h
    exact some_of (by kernel_rfl)
  exact .ofInt (by kernel_rfl) hm rfl ⟨_, rfl⟩
theorem rd_42 : RdT T S 42 := by
  have hm : ∀ ds, SameL (T.dget 42 (T.dflt 42)) ds → ∃ x, T.dset 42 ds = some x := by
    intro ds h
    obtain ⟨c0, r0, rfl, ⟨b0, rfl⟩, h⟩ := h
    cases h
    exact some_of (by kernel_rfl)
  exact .ofSlice (e := 133) (by kernel_rfl) hm rfl ⟨_, rfl⟩ (by decide)
theorem rd_133 : RdT T S 133 := by
  have hm : ∀ ds, SameL (T.dget 133 (T.dflt 133)) ds → ∃ x, T.dset 133 ds = some x := by
    intro ds h
    obtain ⟨c0, r0, rfl, ⟨b0, rfl⟩, h⟩ := h
    obtain ⟨c1, r1, rfl, ⟨b1, rfl⟩, h⟩ := h
    obtain ⟨c2, r2, rfl, ⟨b2, rfl⟩, h⟩ := h
    obtain ⟨c3, r3, rfl, ⟨b3, rfl⟩, h⟩ := h
    obtain ⟨c4, r4, rfl, ⟨b4, rfl⟩, h⟩ := h
    cases h
    exact some_of (by kernel_rfl)
  exact .ofStruct (fs := [(0, 3), (1, 3), (2, 3), (3, 3), (4, 3)]) (by kernel_rfl) hm (by kernel_rfl) (by kernel_rfl) (by kernel_rfl) (by decide)
theorem rds : ∀ t ∈ S, RdT T S t := List.forall_mem_cons.2 ⟨rd_3, List.forall_mem_cons.2 ⟨rd_42, List.forall_mem_cons.2 ⟨rd_133, fun _ h => nomatch h⟩⟩⟩
theorem law_call : ∀ ar, ArgsAre T Try.f5.params.toList ar → CallOk Try.prog T 5 ar (laws_FnExactBerthAll_enc true) := by
  intro ar h
  rw [Try.params5] at h
  obtain ⟨y0, r0, rfl, w0, y1, r1, rfl, w1, rfl⟩ := h
  obtain ⟨n, hn⟩ := laws_FnExactBerthAll_true y0 y1 (wf_3 y0 w0) (wf_42 y1 w1)
  exact call_of (phiE_nat _ _) (sem n 41) ok mixed Try.func5 (c := laws_FnExactBerthAll_code) (by kernel_rfl) (laws_FnExactBerthAll_lo n) (by kernel_rfl) (by kernel_rfl) (by kernel_rfl) laws_FnExactBerthAll_de ((laws_FnExactBerthAll_tie n y0 y1).trans hn)
end Go.Sm.E5
namespace Go.Proofs.Ytakllmgiobpmgaa
open Go.ChangeShapes Go.WideShapes Go.ChangeAt Go.RowKit Go.Sm Go.Sm.E5
theorem fnExactBerthAll_lifted (os : Os) (started : os.Started) (H : Type) (enc : TypeId × Value → H) :
    ReturnsInHanded {} Try.checked os 5 .any (Rows.fnExactBerthAllSpec.pre6 enc Try.prog Try.f5 Rows.fnExactBerthAllRow.domain false) (Rows.fnExactBerthAllSpec.post enc Try.prog Try.f5 false true false false) := by
  refine returnsInHanded_of_change (C := Try.checked) Try.own started (by kernel_rfl) Try.func5
    (ChangeSpec.witness6 (enc := enc) (C := Try.checked) false ⟨#[], #[.int .i64 0, .slice none 0 0], []⟩ 8 (by kernel_rfl) (by kernel_rfl) (by kernel_rfl) (by kernel_rfl)) ?_
  intro W base args ds gs before hval hW _ _
  exact row_of (P := Try.prog) (T := T) (s := Rows.fnExactBerthAllSpec) (fn := Try.f5) (tb := 4) ok rds Try.laidOut (by rw [Try.params5]; decide)
    (by rw [Try.params5]; exact List.forall_mem_cons.2 ⟨⟨by kernel_rfl, of_decide_eq_true (by kernel_rfl)⟩, List.forall_mem_cons.2 ⟨⟨by kernel_rfl, of_decide_eq_true (by kernel_rfl)⟩, fun _ h => nomatch h⟩⟩) (by rw [Try.params5]; rfl) rfl (by rw [Try.params5]; intro ds h; match ds, h with | [d0, d1], _ => rfl) (by rfl) Try.underlying4 hval hW rfl law_call
theorem fnExactBerthAll_f1 : (Rows.fnExactBerthAllRow.inPlace == Try.prog.inPlace 5) = true := by kernel_rfl
theorem fnExactBerthAll_f2 : (Rows.fnExactBerthAllRow.unfollowed == Try.prog.unfollowed 5) = true := by kernel_rfl
theorem fnExactBerthAll_f3 : (Rows.fnExactBerthAllRow.recurses == Try.prog.recurses 5) = true := by kernel_rfl
theorem fnExactBerthAll_f4 : (Rows.fnExactBerthAllRow.named == Try.prog.varsNamed 5) = true := by kernel_rfl
theorem fnExactBerthAll_facts : joinedFacts Try.prog 5 Try.f5 Rows.fnExactBerthAllSpec Rows.fnExactBerthAllRow = true := by
  unfold joinedFacts
  exact and_mk (and_mk (and_mk (and_mk (and_mk (and_mk (and_mk (and_mk (and_mk (and_mk (and_mk (and_mk (and_mk (and_mk (and_mk (and_mk (and_mk (and_mk (and_mk (and_mk (and_mk (and_mk (and_mk (and_mk (and_mk (and_mk (and_mk (and_mk (and_mk (and_mk (and_mk
    (by kernel_rfl) Try.laidOut) Try.fRowed) (by kernel_rfl)) (by kernel_rfl)) (by kernel_rfl)) Try.fStops) (by kernel_rfl)) Try.fKnobs) fnExactBerthAll_f1) fnExactBerthAll_f2) fnExactBerthAll_f3) fnExactBerthAll_f4)
    (by kernel_rfl)) (by kernel_rfl)) (by kernel_rfl)) (by kernel_rfl)) (by kernel_rfl)) (by kernel_rfl)) (by kernel_rfl)) (by kernel_rfl)) (by kernel_rfl)) Try.fKeys) (by kernel_rfl)) Try.fHeard) Try.fEnter) Try.fLifted) Try.fMake) (by kernel_rfl)) (by kernel_rfl)) (by kernel_rfl)) (by kernel_rfl)
theorem fnExactBerthAll_holds : Rows.FnExactBerthAllSaid :=
  OpenClaim.holds_of_wide 5 Try.f5 rfl rfl rfl rfl rfl rfl rfl ⟨rfl, rfl, rfl, rfl, rfl⟩ rfl rfl rfl rfl rfl (by kernel_rfl) Try.func5 fnExactBerthAll_facts
    (of_decide_eq_true (by kernel_rfl)) (by unfold Func.isWrapper; first | (rw [if_pos (by decide +kernel)]; kernel_rfl) | (rw [if_neg (by decide +kernel)]; exact ⟨rfl, rfl⟩))
    (fun os started H enc _ => fnExactBerthAll_lifted os started H enc)
end Go.Proofs.Ytakllmgiobpmgaa
