import Derived.Test.YtakllmgiobpmgaaEngD
import Derived.Test.YtakllmgiobpmgaaE3Tie
import Derived.Test.YtakllmgiobpmgaaE3Fn
import Derived.Test.YtakllmgiobpmgaaFacts
/- Travel: of all legs, ports, minutes and changes the written-out way and the built one tell the same way. -/
set_option linter.unusedSimpArgs false
set_option linter.deprecated false
set_option linter.unusedSectionVars false
set_option linter.unusedVariables false
set_option maxRecDepth 100000
open Go Go.Proofs
noncomputable section
namespace Go.Sm.E3
abbrev S : List Nat := [22, 117, 3]
theorem wf_117 (x : SLeg) (h : ∀ d ∈ T.dget 117 x, WfD T d) : wfSLeg x := by
  have h : ∀ d ∈ ([.int .i64 x.Service, .int .i64 x.From, .int .i64 x.To, .int .i64 x.Leaves, .int .i64 x.Comes, .int .i64 x.Room] : List (D T.U)), WfD T d := h
  exact ⟨(WfD.i (h _ (.head _))), (WfD.i (h _ (.tail _ (.head _)))), (WfD.i (h _ (.tail _ (.tail _ (.head _))))), (WfD.i (h _ (.tail _ (.tail _ (.tail _ (.head _)))))), (WfD.i (h _ (.tail _ (.tail _ (.tail _ (.tail _ (.head _))))))), (WfD.i (h _ (.tail _ (.tail _ (.tail _ (.tail _ (.tail _ (.head _))))))))⟩
theorem wf_22 (x : List SLeg) (h : ∀ d ∈ T.dget 22 x, WfD T d) : (x.length ≤ 9223372036854775807 ∧ ∀ y ∈ x, wfSLeg y) := by
  have h : ∀ d ∈ ([.arr 117 x] : List (D T.U)), WfD T d := h
  exact ⟨(WfD.a (h _ (.head _))).1, fun y hy => wf_117 y ((WfD.a (h _ (.head _))).2 y hy)⟩
theorem wf_3 (x : Int) (h : ∀ d ∈ T.dget 3 x, WfD T d) : rng (-9223372036854775808) 9223372036854775807 x := by
  have h : ∀ d ∈ ([.int .i64 x] : List (D T.U)), WfD T d := h
  exact (WfD.i (h _ (.head _)))
theorem rd_22 : RdT T S 22 := by
  have hm : ∀ ds, SameL (T.dget 22 (T.dflt 22)) ds → ∃ x, T.dset 22 ds = some x := by
    intro ds h
    obtain ⟨c0, r0, rfl, ⟨b0, rfl⟩, h⟩ := h
    cases h
    exact some_of (by kernel_rfl)
  exact .ofSlice (e := 117) (by kernel_rfl) hm rfl ⟨_, rfl⟩ (by decide)
theorem rd_117 : RdT T S 117 := by
  have hm : ∀ ds, SameL (T.dget 117 (T.dflt 117)) ds → ∃ x, T.dset 117 ds = some x := by
    intro ds h
    obtain ⟨c0, r0, rfl, ⟨b0, rfl⟩, h⟩ := h
    obtain ⟨c1, r1, rfl, ⟨b1, rfl⟩, h⟩ := h
    obtain ⟨c2, r2, rfl, ⟨b2, rfl⟩, h⟩ := h
    obtain ⟨c3, r3, rfl, ⟨b3, rfl⟩, h⟩ := h
    obtain ⟨c4, r4, rfl, ⟨b4, rfl⟩, h⟩ := h
    obtain ⟨c5, r5, rfl, ⟨b5, rfl⟩, h⟩ := h
    cases h
    exact some_of (by kernel_rfl)
  exact .ofStruct (fs := [(0, 3), (1, 3), (2, 3), (3, 3), (4, 3), (5, 3)]) (by kernel_rfl) hm (by kernel_rfl) (by kernel_rfl) (by kernel_rfl) (by decide)
theorem rd_3 : RdT T S 3 := by
  have hm : ∀ ds, SameL (T.dget 3 (T.dflt 3)) ds → ∃ x, T.dset 3 ds = some x := by
    intro ds h
    obtain ⟨c0, r0, rfl, ⟨b0, rfl⟩, h⟩ := h
    cases h
    exact some_of (by kernel_rfl)
  exact .ofInt (by kernel_rfl) hm rfl ⟨_, rfl⟩
theorem rds : ∀ t ∈ S, RdT T S t := List.forall_mem_cons.2 ⟨rd_22, List.forall_mem_cons.2 ⟨rd_117, List.forall_mem_cons.2 ⟨rd_3, fun _ h => nomatch h⟩⟩⟩
theorem law_call : ∀ ar, ArgsAre T Try.f3.params.toList ar → CallOk Try.prog T 3 ar (laws_FnExactTravel_enc true) := by
  intro ar h
  rw [Try.params3] at h
  obtain ⟨y0, r0, rfl, w0, y1, r1, rfl, w1, y2, r2, rfl, w2, y3, r3, rfl, w3, y4, r4, rfl, w4, rfl⟩ := h
  obtain ⟨n, hn⟩ := laws_FnExactTravel_true y0 y1 y2 y3 y4 (wf_22 y0 w0) (wf_3 y1 w1) (wf_3 y2 w2) (wf_3 y3 w3) (wf_3 y4 w4)
  exact call_of (phiE_nat _ _) (sem n 31) ok mixed Try.func3 (c := laws_FnExactTravel_code) (by kernel_rfl) (laws_FnExactTravel_lo n) (by kernel_rfl) (by kernel_rfl) (by kernel_rfl) laws_FnExactTravel_de ((laws_FnExactTravel_tie n y0 y1 y2 y3 y4).trans hn)
end Go.Sm.E3
namespace Go.Proofs.Ytakllmgiobpmgaa
open Go.ChangeShapes Go.WideShapes Go.ChangeAt Go.RowKit Go.Sm Go.Sm.E3
theorem fnExactTravel_lifted (os : Os) (started : os.Started) (H : Type) (enc : TypeId × Value → H) :
    ReturnsInHanded {} Try.checked os 3 .any (Rows.fnExactTravelSpec.pre6 enc Try.prog Try.f3 Rows.fnExactTravelRow.domain false) (Rows.fnExactTravelSpec.post enc Try.prog Try.f3 false true false false) := by
  refine returnsInHanded_of_change (C := Try.checked) Try.own started (by kernel_rfl) Try.func3
    (ChangeSpec.witness6 (enc := enc) (C := Try.checked) false ⟨#[], #[.slice none 0 0, .int .i64 0, .int .i64 0, .int .i64 0, .int .i64 0], []⟩ 8 (by kernel_rfl) (by kernel_rfl) (by kernel_rfl) (by kernel_rfl)) ?_
  intro W base args ds gs before hval hW _ _
  exact row_of (P := Try.prog) (T := T) (s := Rows.fnExactTravelSpec) (fn := Try.f3) (tb := 4) ok rds Try.laidOut (by rw [Try.params3]; decide)
    (by rw [Try.params3]; exact List.forall_mem_cons.2 ⟨⟨by kernel_rfl, of_decide_eq_true (by kernel_rfl)⟩, List.forall_mem_cons.2 ⟨⟨by kernel_rfl, of_decide_eq_true (by kernel_rfl)⟩, List.forall_mem_cons.2 ⟨⟨by kernel_rfl, of_decide_eq_true (by kernel_rfl)⟩, List.forall_mem_cons.2 ⟨⟨by kernel_rfl, of_decide_eq_true (by kernel_rfl)⟩, List.forall_mem_cons.2 ⟨⟨by kernel_rfl, of_decide_eq_true (by kernel_rfl)⟩, fun _ h => nomatch h⟩⟩⟩⟩⟩) (by rw [Try.params3]; rfl) rfl (by rw [Try.params3]; intro ds h; match ds, h with | [d0, d1, d2, d3, d4], _ => rfl) (by rfl) Try.underlying4 hval hW rfl law_call
theorem fnExactTravel_f1 : (Rows.fnExactTravelRow.inPlace == Try.prog.inPlace 3) = true := by kernel_rfl
theorem fnExactTravel_f2 : (Rows.fnExactTravelRow.unfollowed == Try.prog.unfollowed 3) = true := by kernel_rfl
theorem fnExactTravel_f3 : (Rows.fnExactTravelRow.recurses == Try.prog.recurses 3) = true := by kernel_rfl
theorem fnExactTravel_f4 : (Rows.fnExactTravelRow.named == Try.prog.varsNamed 3) = true := by kernel_rfl
theorem fnExactTravel_facts : joinedFacts Try.prog 3 Try.f3 Rows.fnExactTravelSpec Rows.fnExactTravelRow = true := by
  unfold joinedFacts
  exact and_mk (and_mk (and_mk (and_mk (and_mk (and_mk (and_mk (and_mk (and_mk (and_mk (and_mk (and_mk (and_mk (and_mk (and_mk (and_mk (and_mk (and_mk (and_mk (and_mk (and_mk (and_mk (and_mk (and_mk (and_mk (and_mk (and_mk (and_mk (and_mk (and_mk (and_mk
    (by kernel_rfl) Try.laidOut) Try.fRowed) (by kernel_rfl)) (by kernel_rfl)) (by kernel_rfl)) Try.fStops) (by kernel_rfl)) Try.fKnobs) fnExactTravel_f1) fnExactTravel_f2) fnExactTravel_f3) fnExactTravel_f4)
    (by kernel_rfl)) (by kernel_rfl)) (by kernel_rfl)) (by kernel_rfl)) (by kernel_rfl)) (by kernel_rfl)) (by kernel_rfl)) (by kernel_rfl)) (by kernel_rfl)) Try.fKeys) (by kernel_rfl)) Try.fHeard) Try.fEnter) Try.fLifted) Try.fMake) (by kernel_rfl)) (by kernel_rfl)) (by kernel_rfl)) (by kernel_rfl)
theorem fnExactTravel_holds : Rows.FnExactTravelSaid :=
  OpenClaim.holds_of_wide 3 Try.f3 rfl rfl rfl rfl rfl rfl rfl ⟨rfl, rfl, rfl, rfl, rfl⟩ rfl rfl rfl rfl rfl (by kernel_rfl) Try.func3 fnExactTravel_facts
    (of_decide_eq_true (by kernel_rfl)) (by unfold Func.isWrapper; first | (rw [if_pos (by decide +kernel)]; kernel_rfl) | (rw [if_neg (by decide +kernel)]; exact ⟨rfl, rfl⟩))
    (fun os started H enc _ => fnExactTravel_lifted os started H enc)
end Go.Proofs.Ytakllmgiobpmgaa
