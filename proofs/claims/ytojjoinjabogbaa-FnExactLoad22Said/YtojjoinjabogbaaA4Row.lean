import Derived.Test.YtojjoinjabogbaaEngD
import Derived.Test.YtojjoinjabogbaaA4Tie
import Derived.Test.YtojjoinjabogbaaA4Fn
import Derived.Test.YtojjoinjabogbaaFacts
/- The program's Load22 returns what the reference's returns, for all arguments whose sizes the statement's guards let in. -/
set_option linter.unusedSimpArgs false
set_option linter.deprecated false
set_option linter.unusedSectionVars false
set_option linter.unusedVariables false
set_option maxRecDepth 100000
open Go Go.Proofs
noncomputable section
namespace Go.Sm.A4
abbrev S : List Nat := [34, 163, 3, 24]
theorem wf_163 (x : SLeg) (h : ∀ d ∈ T.dget 163 x, WfD T d) : wfSLeg x := by
  have h : ∀ d ∈ ([.int .i64 x.Service, .int .i64 x.From, .int .i64 x.To, .int .i64 x.Leaves, .int .i64 x.Comes, .int .i64 x.Room] : List (D T.U)), WfD T d := h
  exact ⟨(WfD.i (h _ (.head _))), (WfD.i (h _ (.tail _ (.head _)))), (WfD.i (h _ (.tail _ (.tail _ (.head _))))), (WfD.i (h _ (.tail _ (.tail _ (.tail _ (.head _)))))), (WfD.i (h _ (.tail _ (.tail _ (.tail _ (.tail _ (.head _))))))), (WfD.i (h _ (.tail _ (.tail _ (.tail _ (.tail _ (.tail _ (.head _))))))))⟩
theorem wf_34 (x : List SLeg) (h : ∀ d ∈ T.dget 34 x, WfD T d) : (x.length ≤ 9223372036854775807 ∧ ∀ y ∈ x, wfSLeg y) := by
  have h : ∀ d ∈ ([.arr 163 x] : List (D T.U)), WfD T d := h
  exact ⟨(WfD.a (h _ (.head _))).1, fun y hy => wf_163 y ((WfD.a (h _ (.head _))).2 y hy)⟩
theorem wf_3 (x : Int) (h : ∀ d ∈ T.dget 3 x, WfD T d) : rng (-9223372036854775808) 9223372036854775807 x := by
  have h : ∀ d ∈ ([.int .i64 x] : List (D T.U)), WfD T d := h
  exact (WfD.i (h _ (.head _)))
theorem wf_24 (x : List Int) (h : ∀ d ∈ T.dget 24 x, WfD T d) : (x.length ≤ 9223372036854775807 ∧ ∀ y ∈ x, rng (-9223372036854775808) 9223372036854775807 y) := by
  have h : ∀ d ∈ ([.arr 3 x] : List (D T.U)), WfD T d := h
  exact ⟨(WfD.a (h _ (.head _))).1, fun y hy => wf_3 y ((WfD.a (h _ (.head _))).2 y hy)⟩
theorem rd_34 : RdT T S 34 := by
  have hm : ∀ ds, SameL (T.dget 34 (T.dflt 34)) ds → ∃ x, T.dset 34 ds = some x := by
    intro ds h
    obtain ⟨c0, r0, rfl, ⟨b0, rfl⟩, h⟩ := h
    cases h
    exact some_of (by kernel_rfl)
  exact .ofSlice (e := 163) (by kernel_rfl) hm rfl ⟨_, rfl⟩ (by decide)
theorem rd_163 : RdT T S 163 := by
  have hm : ∀ ds, SameL (T.dget 163 (T.dflt 163)) ds → ∃ x, T.dset 163 ds = some x := by
    intro ds h
    obtain ⟨c0, r0, rfl, ⟨b0, rfl⟩, h⟩ := h
    obtain ⟨c1, r1, rfl, ⟨b1, rfl⟩, h⟩ := h
    obtain ⟨c2, r2, rfl, ⟨b2, rfl⟩, h⟩ := h
    obtain ⟨c3, r3, rfl, ⟨b3, rfl⟩, h⟩ := h
    obtain ⟨c4, r4, rfl, ⟨b4, rfl⟩, h⟩ := h
    obtain ⟨c5, r5, rfl, ⟨b5, rfl⟩, h⟩ := h
    cases h
    exact some_of (by kernel_rfl)
  exact .ofStruct (fs := [(0, 3), (1, 3), (2, 3), (3, 3), (4, 3), (5, 3)]) (by kernel_rfl) hm (by kernel_rfl) (by kernel_rfl) (by kernel_rfl) (by decide)
theorem rd_3 : RdT T S 3 := by
  have hm : ∀ ds, SameL (T.dget 3 (T.dflt 3)) ds → ∃ x, T.dset 3 ds = some x := by
    intro ds h
    obtain ⟨c0, r0, rfl, ⟨b0, rfl⟩, h⟩ := h
    cases h
    exact some_of (by kernel_rfl)
  exact .ofInt (by kernel_rfl) hm rfl ⟨_, rfl⟩
theorem rd_24 : RdT T S 24 := by
  have hm : ∀ ds, SameL (T.dget 24 (T.dflt 24)) ds → ∃ x, T.dset 24 ds = some x := by
    intro ds h
    obtain ⟨c0, r0, rfl, ⟨b0, rfl⟩, h⟩ := h
    cases h
    exact some_of (by kernel_rfl)
  exact .ofSlice (e := 3) (by kernel_rfl) hm rfl ⟨_, rfl⟩ (by decide)
theorem rds : ∀ t ∈ S, RdT T S t := List.forall_mem_cons.2 ⟨rd_34, List.forall_mem_cons.2 ⟨rd_163, List.forall_mem_cons.2 ⟨rd_3, List.forall_mem_cons.2 ⟨rd_24, fun _ h => nomatch h⟩⟩⟩⟩
theorem law_call : ∀ ar, ArgsAre T Try.f4.params.toList ar → CallOk Try.prog T 4 ar (laws_FnExactLoad22_enc true) := by
  intro ar h
  rw [Try.params4] at h
  obtain ⟨y0, r0, rfl, w0, y1, r1, rfl, w1, y2, r2, rfl, w2, rfl⟩ := h
  obtain ⟨n, hn⟩ := laws_FnExactLoad22_true y0 y1 y2 (wf_34 y0 w0) (wf_24 y1 w1) (wf_3 y2 w2)
  exact call_of (phiE_nat _ _) (sem n 25) ok mixed Try.func4 (c := laws_FnExactLoad22_code) (by kernel_rfl) (laws_FnExactLoad22_lo n) (by kernel_rfl) (by kernel_rfl) (by kernel_rfl) laws_FnExactLoad22_de ((laws_FnExactLoad22_tie n y0 y1 y2).trans hn)
end Go.Sm.A4
namespace Go.Proofs.Ytojjoinjabogbaa
open Go.ChangeShapes Go.WideShapes Go.ChangeAt Go.RowKit Go.Sm Go.Sm.A4
theorem fnExactLoad22_lifted (os : Os) (started : os.Started) (H : Type) (enc : TypeId × Value → H) :
    ReturnsInHanded {} Try.checked os 4 .any (Rows.fnExactLoad22Spec.pre6 enc Try.prog Try.f4 Rows.fnExactLoad22Row.domain false) (Rows.fnExactLoad22Spec.post enc Try.prog Try.f4 false true false false) := by
  refine returnsInHanded_of_change (C := Try.checked) Try.own started (by kernel_rfl) Try.func4
    (ChangeSpec.witness6 (enc := enc) (C := Try.checked) false ⟨#[], #[.slice none 0 0, .slice none 0 0, .int .i64 0], []⟩ 8 (by kernel_rfl) (by kernel_rfl) (by kernel_rfl) (by kernel_rfl)) ?_
  intro W base args ds gs before hval hW _ _
  exact row_of (P := Try.prog) (T := T) (s := Rows.fnExactLoad22Spec) (fn := Try.f4) (tb := 4) ok rds Try.laidOut (by rw [Try.params4]; decide)
    (by rw [Try.params4]; exact List.forall_mem_cons.2 ⟨⟨by kernel_rfl, of_decide_eq_true (by kernel_rfl)⟩, List.forall_mem_cons.2 ⟨⟨by kernel_rfl, of_decide_eq_true (by kernel_rfl)⟩, List.forall_mem_cons.2 ⟨⟨by kernel_rfl, of_decide_eq_true (by kernel_rfl)⟩, fun _ h => nomatch h⟩⟩⟩) (by rw [Try.params4]; rfl) rfl (by rw [Try.params4]; intro ds h; match ds, h with | [d0, d1, d2], _ => rfl) (by rfl) Try.underlying4 hval hW rfl law_call
theorem fnExactLoad22_f1 : (Rows.fnExactLoad22Row.inPlace == Try.prog.inPlace 4) = true := by kernel_rfl
theorem fnExactLoad22_f2 : (Rows.fnExactLoad22Row.unfollowed == Try.prog.unfollowed 4) = true := by kernel_rfl
theorem fnExactLoad22_f3 : (Rows.fnExactLoad22Row.recurses == Try.prog.recurses 4) = true := by kernel_rfl
theorem fnExactLoad22_f4 : (Rows.fnExactLoad22Row.named == Try.prog.varsNamed 4) = true := by kernel_rfl
theorem fnExactLoad22_facts : joinedFacts Try.prog 4 Try.f4 Rows.fnExactLoad22Spec Rows.fnExactLoad22Row = true := by
  unfold joinedFacts
  exact and_mk (and_mk (and_mk (and_mk (and_mk (and_mk (and_mk (and_mk (and_mk (and_mk (and_mk (and_mk (and_mk (and_mk (and_mk (and_mk (and_mk (and_mk (and_mk (and_mk (and_mk (and_mk (and_mk (and_mk (and_mk (and_mk (and_mk (and_mk (and_mk (and_mk (and_mk
    (by kernel_rfl) Try.laidOut) Try.fRowed) (by kernel_rfl)) (by kernel_rfl)) (by kernel_rfl)) Try.fStops) (by kernel_rfl)) Try.fKnobs) fnExactLoad22_f1) fnExactLoad22_f2) fnExactLoad22_f3) fnExactLoad22_f4)
    (by kernel_rfl)) (by kernel_rfl)) (by kernel_rfl)) (by kernel_rfl)) (by kernel_rfl)) (by kernel_rfl)) (by kernel_rfl)) (by kernel_rfl)) (by kernel_rfl)) Try.fKeys) (by kernel_rfl)) Try.fHeard) Try.fEnter) Try.fLifted) Try.fMake) (by kernel_rfl)) (by kernel_rfl)) (by kernel_rfl)) (by kernel_rfl)
theorem fnExactLoad22_holds : Rows.FnExactLoad22Said :=
  OpenClaim.holds_of_wide 4 Try.f4 rfl rfl rfl rfl rfl rfl rfl ⟨rfl, rfl, rfl, rfl, rfl⟩ rfl rfl rfl rfl rfl (by kernel_rfl) Try.func4 fnExactLoad22_facts
    (of_decide_eq_true (by kernel_rfl)) (by unfold Func.isWrapper; first | (rw [if_pos (by decide +kernel)]; kernel_rfl) | (rw [if_neg (by decide +kernel)]; exact ⟨rfl, rfl⟩))
    (fun os started H enc _ => fnExactLoad22_lifted os started H enc)
end Go.Proofs.Ytojjoinjabogbaa
