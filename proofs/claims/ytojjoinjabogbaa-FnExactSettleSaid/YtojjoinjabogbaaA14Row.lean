import Derived.Test.YtojjoinjabogbaaEngD
import Derived.Test.YtojjoinjabogbaaA14Tie
import Derived.Test.YtojjoinjabogbaaA14Fn
import Derived.Test.YtojjoinjabogbaaFacts
/- Settle: the written-out radios and the built ones end alike, with the same coins used, for every list and every coins. -/
set_option linter.unusedSimpArgs false
set_option linter.deprecated false
set_option linter.unusedSectionVars false
set_option linter.unusedVariables false
set_option maxRecDepth 100000
open Go Go.Proofs
noncomputable section
namespace Go.Sm.A14
abbrev S : List Nat := [134, 243, 3, 24]
theorem wf_3 (x : Int) (h : ∀ d ∈ T.dget 3 x, WfD T d) : rng (-9223372036854775808) 9223372036854775807 x := by
  have h : ∀ d ∈ ([.int .i64 x] : List (D T.U)), WfD T d := h
  exact (WfD.i (h _ (.head _)))
theorem wf_243 (x : SRadio) (h : ∀ d ∈ T.dget 243 x, WfD T d) : wfSRadio x := by
  have h : ∀ d ∈ ([.int .i64 x.Id, .int .i64 x.Slot, .arr 3 x.Hears] : List (D T.U)), WfD T d := h
  exact ⟨(WfD.i (h _ (.head _))), (WfD.i (h _ (.tail _ (.head _)))), ⟨(WfD.a (h _ (.tail _ (.tail _ (.head _))))).1, fun y hy => wf_3 y ((WfD.a (h _ (.tail _ (.tail _ (.head _))))).2 y hy)⟩⟩
theorem wf_134 (x : List SRadio) (h : ∀ d ∈ T.dget 134 x, WfD T d) : (x.length ≤ 9223372036854775807 ∧ ∀ y ∈ x, wfSRadio y) := by
  have h : ∀ d ∈ ([.arr 243 x] : List (D T.U)), WfD T d := h
  exact ⟨(WfD.a (h _ (.head _))).1, fun y hy => wf_243 y ((WfD.a (h _ (.head _))).2 y hy)⟩
theorem wf_24 (x : List Int) (h : ∀ d ∈ T.dget 24 x, WfD T d) : (x.length ≤ 9223372036854775807 ∧ ∀ y ∈ x, rng (-9223372036854775808) 9223372036854775807 y) := by
  have h : ∀ d ∈ ([.arr 3 x] : List (D T.U)), WfD T d := h
  exact ⟨(WfD.a (h _ (.head _))).1, fun y hy => wf_3 y ((WfD.a (h _ (.head _))).2 y hy)⟩
theorem rd_134 : RdT T S 134 := by
  have hm : ∀ ds, SameL (T.dget 134 (T.dflt 134)) ds → ∃ x, T.dset 134 ds = some x := by
    intro ds h
    obtain ⟨c0, r0, rfl, ⟨b0, rfl⟩, h⟩ := h
    cases h
    exact some_of (by kernel_rfl)
  exact .ofSlice (e := 243) (by kernel_rfl) hm rfl ⟨_, rfl⟩ (by decide)
theorem rd_243 : RdT T S 243 := by
  have hm : ∀ ds, SameL (T.dget 243 (T.dflt 243)) ds → ∃ x, T.dset 243 ds = some x := by
    intro ds h
    obtain ⟨c0, r0, rfl, ⟨b0, rfl⟩, h⟩ := h
    obtain ⟨c1, r1, rfl, ⟨b1, rfl⟩, h⟩ := h
    obtain ⟨c2, r2, rfl, ⟨b2, rfl⟩, h⟩ := h
    cases h
    exact some_of (by kernel_rfl)
  exact .ofStruct (fs := [(0, 3), (1, 3), (2, 24)]) (by kernel_rfl) hm (by kernel_rfl) (by kernel_rfl) (by kernel_rfl) (by decide)
theorem rd_3 : RdT T S 3 := by
  have hm : ∀ ds, SameL (T.dget 3 (T.dflt 3)) ds → ∃ x, T.dset 3 ds = some x := by
    intro ds h
    obtain ⟨c0, r0, rfl, ⟨b0, rfl⟩, h⟩ := h
    cases h
    exact some_of (by kernel_rfl)
  exact .ofInt (by kernel_rfl) hm rfl ⟨_, rfl⟩
theorem rd_24 : RdT T S 24 := by
  have hm : ∀ ds, SameL (T.dget 24 (T.dflt 24)) ds → ∃ x, T.dset 24 ds = some x := by
    intro ds h
    obtain ⟨c0, r0, rfl, ⟨b0, rfl⟩, h⟩ := h
    cases h
    exact some_of (by kernel_rfl)
  exact .ofSlice (e := 3) (by kernel_rfl) hm rfl ⟨_, rfl⟩ (by decide)
theorem rds : ∀ t ∈ S, RdT T S t := List.forall_mem_cons.2 ⟨rd_134, List.forall_mem_cons.2 ⟨rd_243, List.forall_mem_cons.2 ⟨rd_3, List.forall_mem_cons.2 ⟨rd_24, fun _ h => nomatch h⟩⟩⟩⟩
theorem law_call : ∀ ar, ArgsAre T Try.f14.params.toList ar → CallOk Try.prog T 14 ar (laws_FnExactSettle_enc true) := by
  intro ar h
  rw [Try.params14] at h
  obtain ⟨y0, r0, rfl, w0, y1, r1, rfl, w1, rfl⟩ := h
  obtain ⟨n, hn⟩ := laws_FnExactSettle_true y0 y1 (wf_134 y0 w0) (wf_24 y1 w1)
  exact call_of (phiE_nat _ _) (sem n 41) ok mixed Try.func14 (c := laws_FnExactSettle_code) (by kernel_rfl) (laws_FnExactSettle_lo n) (by kernel_rfl) (by kernel_rfl) (by kernel_rfl) laws_FnExactSettle_de ((laws_FnExactSettle_tie n y0 y1).trans hn)
end Go.Sm.A14
namespace Go.Proofs.Ytojjoinjabogbaa
open Go.ChangeShapes Go.WideShapes Go.ChangeAt Go.RowKit Go.Sm Go.Sm.A14
theorem fnExactSettle_lifted (os : Os) (started : os.Started) (H : Type) (enc : TypeId × Value → H) :
    ReturnsInHanded {} Try.checked os 14 .any (Rows.fnExactSettleSpec.pre6 enc Try.prog Try.f14 Rows.fnExactSettleRow.domain false) (Rows.fnExactSettleSpec.post enc Try.prog Try.f14 false true false false) := by
  refine returnsInHanded_of_change (C := Try.checked) Try.own started (by kernel_rfl) Try.func14
    (ChangeSpec.witness6 (enc := enc) (C := Try.checked) false ⟨#[], #[.slice none 0 0, .slice none 0 0], []⟩ 8 (by kernel_rfl) (by kernel_rfl) (by kernel_rfl) (by kernel_rfl)) ?_
  intro W base args ds gs before hval hW _ _
  exact row_of (P := Try.prog) (T := T) (s := Rows.fnExactSettleSpec) (fn := Try.f14) (tb := 4) ok rds Try.laidOut (by rw [Try.params14]; decide)
    (by rw [Try.params14]; exact List.forall_mem_cons.2 ⟨⟨by kernel_rfl, of_decide_eq_true (by kernel_rfl)⟩, List.forall_mem_cons.2 ⟨⟨by kernel_rfl, of_decide_eq_true (by kernel_rfl)⟩, fun _ h => nomatch h⟩⟩) (by rw [Try.params14]; rfl) rfl (by rw [Try.params14]; intro ds h; match ds, h with | [d0, d1], _ => rfl) (by rfl) Try.underlying4 hval hW rfl law_call
theorem fnExactSettle_f1 : (Rows.fnExactSettleRow.inPlace == Try.prog.inPlace 14) = true := by kernel_rfl
theorem fnExactSettle_f2 : (Rows.fnExactSettleRow.unfollowed == Try.prog.unfollowed 14) = true := by kernel_rfl
theorem fnExactSettle_f3 : (Rows.fnExactSettleRow.recurses == Try.prog.recurses 14) = true := by kernel_rfl
theorem fnExactSettle_f4 : (Rows.fnExactSettleRow.named == Try.prog.varsNamed 14) = true := by kernel_rfl
theorem fnExactSettle_facts : joinedFacts Try.prog 14 Try.f14 Rows.fnExactSettleSpec Rows.fnExactSettleRow = true := by
  unfold joinedFacts
  exact and_mk (and_mk (and_mk (and_mk (and_mk (and_mk (and_mk (and_mk (and_mk (and_mk (and_mk (and_mk (and_mk (and_mk (and_mk (and_mk (and_mk (and_mk (and_mk (and_mk (and_mk (and_mk (and_mk (and_mk (and_mk (and_mk (and_mk (and_mk (and_mk (and_mk (and_mk
    (by kernel_rfl) Try.laidOut) Try.fRowed) (by kernel_rfl)) (by kernel_rfl)) (by kernel_rfl)) Try.fStops) (by kernel_rfl)) Try.fKnobs) fnExactSettle_f1) fnExactSettle_f2) fnExactSettle_f3) fnExactSettle_f4)
    (by kernel_rfl)) (by kernel_rfl)) (by kernel_rfl)) (by kernel_rfl)) (by kernel_rfl)) (by kernel_rfl)) (by kernel_rfl)) (by kernel_rfl)) (by kernel_rfl)) Try.fKeys) (by kernel_rfl)) Try.fHeard) Try.fEnter) Try.fLifted) Try.fMake) (by kernel_rfl)) (by kernel_rfl)) (by kernel_rfl)) (by kernel_rfl)
theorem fnExactSettle_holds : Rows.FnExactSettleSaid :=
  OpenClaim.holds_of_wide 14 Try.f14 rfl rfl rfl rfl rfl rfl rfl ⟨rfl, rfl, rfl, rfl, rfl⟩ rfl rfl rfl rfl rfl (by kernel_rfl) Try.func14 fnExactSettle_facts
    (of_decide_eq_true (by kernel_rfl)) (by unfold Func.isWrapper; first | (rw [if_pos (by decide +kernel)]; kernel_rfl) | (rw [if_neg (by decide +kernel)]; exact ⟨rfl, rfl⟩))
    (fun os started H enc _ => fnExactSettle_lifted os started H enc)
end Go.Proofs.Ytojjoinjabogbaa
