import Derived.Test.YtojjoinjabogbaaEngD
import Derived.Test.YtojjoinjabogbaaA10Tie
import Derived.Test.YtojjoinjabogbaaA10Fn
import Derived.Test.YtojjoinjabogbaaFacts
/- Settle21: two parties end alike by the written-out exchange and by the built one, for all parties, losses and rounds. -/
set_option linter.unusedSimpArgs false
set_option linter.deprecated false
set_option linter.unusedSectionVars false
set_option linter.unusedVariables false
set_option maxRecDepth 100000
open Go Go.Proofs
noncomputable section
namespace Go.Sm.A10
abbrev S : List Nat := [106, 104, 9, 3, 55, 4]
theorem wf_9 (x : ByteArray) (h : ∀ d ∈ T.dget 9 x, WfD T d) : x.size ≤ 9223372036854775807 := by
  have h : ∀ d ∈ ([.str x] : List (D T.U)), WfD T d := h
  exact (WfD.s (h _ (.head _)))
theorem wf_106 (x : SParty) (h : ∀ d ∈ T.dget 106 x, WfD T d) : wfSParty x := by
  have h : ∀ d ∈ ([.arr 9 x.Sent, .int .i64 x.Acked, .arr 9 x.Got] : List (D T.U)), WfD T d := h
  exact ⟨⟨(WfD.a (h _ (.head _))).1, fun y hy => wf_9 y ((WfD.a (h _ (.head _))).2 y hy)⟩, (WfD.i (h _ (.tail _ (.head _)))), ⟨(WfD.a (h _ (.tail _ (.tail _ (.head _))))).1, fun y hy => wf_9 y ((WfD.a (h _ (.tail _ (.tail _ (.head _))))).2 y hy)⟩⟩
theorem wf_4 (x : Bool) (h : ∀ d ∈ T.dget 4 x, WfD T d) : True := by
  have h : ∀ d ∈ ([.bool x] : List (D T.U)), WfD T d := h
  exact trivial
theorem wf_55 (x : List Bool) (h : ∀ d ∈ T.dget 55 x, WfD T d) : (x.length ≤ 9223372036854775807 ∧ ∀ y ∈ x, True) := by
  have h : ∀ d ∈ ([.arr 4 x] : List (D T.U)), WfD T d := h
  exact ⟨(WfD.a (h _ (.head _))).1, fun y hy => wf_4 y ((WfD.a (h _ (.head _))).2 y hy)⟩
theorem wf_3 (x : Int) (h : ∀ d ∈ T.dget 3 x, WfD T d) : rng (-9223372036854775808) 9223372036854775807 x := by
  have h : ∀ d ∈ ([.int .i64 x] : List (D T.U)), WfD T d := h
  exact (WfD.i (h _ (.head _)))
theorem rd_106 : RdT T S 106 := by
  have hm : ∀ ds, SameL (T.dget 106 (T.dflt 106)) ds → ∃ x, T.dset 106 ds = some x := by
    intro ds h
    obtain ⟨c0, r0, rfl, ⟨b0, rfl⟩, h⟩ := h
    obtain ⟨c1, r1, rfl, ⟨b1, rfl⟩, h⟩ := h
    obtain ⟨c2, r2, rfl, ⟨b2, rfl⟩, h⟩ := h
    cases h
    exact some_of (by kernel_rfl)
  exact .ofStruct (fs := [(0, 104), (1, 3), (2, 104)]) (by kernel_rfl) hm (by kernel_rfl) (by kernel_rfl) (by kernel_rfl) (by decide)
theorem rd_104 : RdT T S 104 := by
  have hm : ∀ ds, SameL (T.dget 104 (T.dflt 104)) ds → ∃ x, T.dset 104 ds = some x := by
    intro ds h
    obtain ⟨c0, r0, rfl, ⟨b0, rfl⟩, h⟩ := h
    cases h
    exact some_of (by kernel_rfl)
  exact .ofSlice (e := 9) (by kernel_rfl) hm rfl ⟨_, rfl⟩ (by decide)
theorem rd_9 : RdT T S 9 := by
  have hm : ∀ ds, SameL (T.dget 9 (T.dflt 9)) ds → ∃ x, T.dset 9 ds = some x := by
    intro ds h
    obtain ⟨c0, r0, rfl, ⟨b0, rfl⟩, h⟩ := h
    cases h
    exact some_of (by kernel_rfl)
  exact .ofStr (by kernel_rfl) hm rfl ⟨_, rfl⟩
theorem rd_3 : RdT T S 3 := by
  have hm : ∀ ds, SameL (T.dget 3 (T.dflt 3)) ds → ∃ x, T.dset 3 ds = some x := by
    intro ds h
    obtain ⟨c0, r0, rfl, ⟨b0, rfl⟩, h⟩ := h
    cases h
    exact some_of (by kernel_rfl)
  exact .ofInt (by kernel_rfl) hm rfl ⟨_, rfl⟩
theorem rd_55 : RdT T S 55 := by
  have hm : ∀ ds, SameL (T.dget 55 (T.dflt 55)) ds → ∃ x, T.dset 55 ds = some x := by
    intro ds h
    obtain ⟨c0, r0, rfl, ⟨b0, rfl⟩, h⟩ := h
    cases h
    exact some_of (by kernel_rfl)
  exact .ofSlice (e := 4) (by kernel_rfl) hm rfl ⟨_, rfl⟩ (by decide)
theorem rd_4 : RdT T S 4 := by
  have hm : ∀ ds, SameL (T.dget 4 (T.dflt 4)) ds → ∃ x, T.dset 4 ds = some x := by
    intro ds h
    obtain ⟨c0, r0, rfl, ⟨b0, rfl⟩, h⟩ := h
    cases h
    exact some_of (by kernel_rfl)
  exact .ofBool (by kernel_rfl) hm rfl ⟨_, rfl⟩
theorem rds : ∀ t ∈ S, RdT T S t := List.forall_mem_cons.2 ⟨rd_106, List.forall_mem_cons.2 ⟨rd_104, List.forall_mem_cons.2 ⟨rd_9, List.forall_mem_cons.2 ⟨rd_3, List.forall_mem_cons.2 ⟨rd_55, List.forall_mem_cons.2 ⟨rd_4, fun _ h => nomatch h⟩⟩⟩⟩⟩⟩
theorem law_call : ∀ ar, ArgsAre T Try.f10.params.toList ar → CallOk Try.prog T 10 ar (laws_FnExactSettle21_enc true) := by
  intro ar h
  rw [Try.params10] at h
  obtain ⟨y0, r0, rfl, w0, y1, r1, rfl, w1, y2, r2, rfl, w2, y3, r3, rfl, w3, rfl⟩ := h
  obtain ⟨n, hn⟩ := laws_FnExactSettle21_true y0 y1 y2 y3 (wf_106 y0 w0) (wf_106 y1 w1) (wf_55 y2 w2) (wf_3 y3 w3)
  exact call_of (phiE_nat _ _) (sem n 37) ok mixed Try.func10 (c := laws_FnExactSettle21_code) (by kernel_rfl) (laws_FnExactSettle21_lo n) (by kernel_rfl) (by kernel_rfl) (by kernel_rfl) laws_FnExactSettle21_de ((laws_FnExactSettle21_tie n y0 y1 y2 y3).trans hn)
end Go.Sm.A10
namespace Go.Proofs.Ytojjoinjabogbaa
open Go.ChangeShapes Go.WideShapes Go.ChangeAt Go.RowKit Go.Sm Go.Sm.A10
theorem fnExactSettle21_lifted (os : Os) (started : os.Started) (H : Type) (enc : TypeId × Value → H) :
    ReturnsInHanded {} Try.checked os 10 .any (Rows.fnExactSettle21Spec.pre6 enc Try.prog Try.f10 Rows.fnExactSettle21Row.domain false) (Rows.fnExactSettle21Spec.post enc Try.prog Try.f10 false true false false) := by
  refine returnsInHanded_of_change (C := Try.checked) Try.own started (by kernel_rfl) Try.func10
    (ChangeSpec.witness6 (enc := enc) (C := Try.checked) false ⟨#[], #[.agg #[.slice none 0 0, .int .i64 0, .slice none 0 0], .agg #[.slice none 0 0, .int .i64 0, .slice none 0 0], .slice none 0 0, .int .i64 0], []⟩ 8 (by kernel_rfl) (by kernel_rfl) (by kernel_rfl) (by kernel_rfl)) ?_
  intro W base args ds gs before hval hW _ _
  exact row_of (P := Try.prog) (T := T) (s := Rows.fnExactSettle21Spec) (fn := Try.f10) (tb := 4) ok rds Try.laidOut (by rw [Try.params10]; decide)
    (by rw [Try.params10]; exact List.forall_mem_cons.2 ⟨⟨by kernel_rfl, of_decide_eq_true (by kernel_rfl)⟩, List.forall_mem_cons.2 ⟨⟨by kernel_rfl, of_decide_eq_true (by kernel_rfl)⟩, List.forall_mem_cons.2 ⟨⟨by kernel_rfl, of_decide_eq_true (by kernel_rfl)⟩, List.forall_mem_cons.2 ⟨⟨by kernel_rfl, of_decide_eq_true (by kernel_rfl)⟩, fun _ h => nomatch h⟩⟩⟩⟩) (by rw [Try.params10]; rfl) rfl (by rw [Try.params10]; intro ds h; match ds, h with | [d0, d1, d2, d3], _ => rfl) (by rfl) Try.underlying4 hval hW rfl law_call
theorem fnExactSettle21_f1 : (Rows.fnExactSettle21Row.inPlace == Try.prog.inPlace 10) = true := by kernel_rfl
theorem fnExactSettle21_f2 : (Rows.fnExactSettle21Row.unfollowed == Try.prog.unfollowed 10) = true := by kernel_rfl
theorem fnExactSettle21_f3 : (Rows.fnExactSettle21Row.recurses == Try.prog.recurses 10) = true := by kernel_rfl
theorem fnExactSettle21_f4 : (Rows.fnExactSettle21Row.named == Try.prog.varsNamed 10) = true := by kernel_rfl
theorem fnExactSettle21_facts : joinedFacts Try.prog 10 Try.f10 Rows.fnExactSettle21Spec Rows.fnExactSettle21Row = true := by
  unfold joinedFacts
  exact and_mk (and_mk (and_mk (and_mk (and_mk (and_mk (and_mk (and_mk (and_mk (and_mk (and_mk (and_mk (and_mk (and_mk (and_mk (and_mk (and_mk (and_mk (and_mk (and_mk (and_mk (and_mk (and_mk (and_mk (and_mk (and_mk (and_mk (and_mk (and_mk (and_mk (and_mk
    (by kernel_rfl) Try.laidOut) Try.fRowed) (by kernel_rfl)) (by kernel_rfl)) (by kernel_rfl)) Try.fStops) (by kernel_rfl)) Try.fKnobs) fnExactSettle21_f1) fnExactSettle21_f2) fnExactSettle21_f3) fnExactSettle21_f4)
    (by kernel_rfl)) (by kernel_rfl)) (by kernel_rfl)) (by kernel_rfl)) (by kernel_rfl)) (by kernel_rfl)) (by kernel_rfl)) (by kernel_rfl)) (by kernel_rfl)) Try.fKeys) (by kernel_rfl)) Try.fHeard) Try.fEnter) Try.fLifted) Try.fMake) (by kernel_rfl)) (by kernel_rfl)) (by kernel_rfl)) (by kernel_rfl)
theorem fnExactSettle21_holds : Rows.FnExactSettle21Said :=
  OpenClaim.holds_of_wide 10 Try.f10 rfl rfl rfl rfl rfl rfl rfl ⟨rfl, rfl, rfl, rfl, rfl⟩ rfl rfl rfl rfl rfl (by kernel_rfl) Try.func10 fnExactSettle21_facts
    (of_decide_eq_true (by kernel_rfl)) (by unfold Func.isWrapper; first | (rw [if_pos (by decide +kernel)]; kernel_rfl) | (rw [if_neg (by decide +kernel)]; exact ⟨rfl, rfl⟩))
    (fun os started H enc _ => fnExactSettle21_lifted os started H enc)
end Go.Proofs.Ytojjoinjabogbaa
