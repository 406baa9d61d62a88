import Derived.Test.YtakllmgiobpmgaaEngD
import Derived.Test.YtakllmgiobpmgaaE9Tie
import Derived.Test.YtakllmgiobpmgaaE9Fn
import Derived.Test.YtakllmgiobpmgaaFacts
/- ReadSegs: of all texts the written-out way and the built one read the same segments, or stop at the same place for the same reason. -/
set_option linter.unusedSimpArgs false
set_option linter.deprecated false
set_option linter.unusedSectionVars false
set_option linter.unusedVariables false
set_option maxRecDepth 100000
open Go Go.Proofs
noncomputable section
namespace Go.Sm.E9
abbrev S : List Nat := [9]
theorem wf_9 (x : ByteArray) (h : ∀ d ∈ T.dget 9 x, WfD T d) : x.size ≤ 9223372036854775807 := by
  have h : ∀ d ∈ ([.str x] : List (D T.U)), WfD T d := h
  exact (WfD.s (h _ (.head _)))
theorem rd_9 : RdT T S 9 := by
  have hm : ∀ ds, SameL (T.dget 9 (T.dflt 9)) ds → ∃ x, T.dset 9 ds = some x := by
    intro ds h
    obtain ⟨c0, r0, rfl, ⟨b0, rfl⟩, h⟩ := h
    cases h
    exact some_of (by kernel_rfl)
  exact .ofStr (by kernel_rfl) hm rfl ⟨_, rfl⟩
theorem rds : ∀ t ∈ S, RdT T S t := List.forall_mem_cons.2 ⟨rd_9, fun _ h => nomatch h⟩
theorem law_call : ∀ ar, ArgsAre T Try.f9.params.toList ar → CallOk Try.prog T 9 ar (laws_FnExactReadSegs_enc true) := by
  intro ar h
  rw [Try.params9] at h
  obtain ⟨y0, r0, rfl, w0, rfl⟩ := h
  obtain ⟨n, hn⟩ := laws_FnExactReadSegs_true y0 (wf_9 y0 w0)
  exact call_of (phiE_nat _ _) (sem n 23) ok mixed Try.func9 (c := laws_FnExactReadSegs_code) (by kernel_rfl) (laws_FnExactReadSegs_lo n) (by kernel_rfl) (by kernel_rfl) (by kernel_rfl) laws_FnExactReadSegs_de ((laws_FnExactReadSegs_tie n y0).trans hn)
end Go.Sm.E9
namespace Go.Proofs.Ytakllmgiobpmgaa
open Go.ChangeShapes Go.WideShapes Go.ChangeAt Go.RowKit Go.Sm Go.Sm.E9
theorem fnExactReadSegs_lifted (os : Os) (started : os.Started) (H : Type) (enc : TypeId × Value → H) :
    ReturnsInHanded {} Try.checked os 9 .any (Rows.fnExactReadSegsSpec.pre6 enc Try.prog Try.f9 Rows.fnExactReadSegsRow.domain false) (Rows.fnExactReadSegsSpec.post enc Try.prog Try.f9 false true false false) := by
  refine returnsInHanded_of_change (C := Try.checked) Try.own started (by kernel_rfl) Try.func9
    (ChangeSpec.witness6 (enc := enc) (C := Try.checked) false ⟨#[], #[.string ⟨#[]⟩], []⟩ 8 (by kernel_rfl) (by kernel_rfl) (by kernel_rfl) (by kernel_rfl)) ?_
  intro W base args ds gs before hval hW _ _
  exact row_of (P := Try.prog) (T := T) (s := Rows.fnExactReadSegsSpec) (fn := Try.f9) (tb := 4) ok rds Try.laidOut (by rw [Try.params9]; decide)
    (by rw [Try.params9]; exact List.forall_mem_cons.2 ⟨⟨by kernel_rfl, of_decide_eq_true (by kernel_rfl)⟩, fun _ h => nomatch h⟩) (by rw [Try.params9]; rfl) rfl (by rw [Try.params9]; intro ds h; match ds, h with | [d0], _ => rfl) (by rfl) Try.underlying4 hval hW rfl law_call
theorem fnExactReadSegs_f1 : (Rows.fnExactReadSegsRow.inPlace == Try.prog.inPlace 9) = true := by kernel_rfl
theorem fnExactReadSegs_f2 : (Rows.fnExactReadSegsRow.unfollowed == Try.prog.unfollowed 9) = true := by kernel_rfl
theorem fnExactReadSegs_f3 : (Rows.fnExactReadSegsRow.recurses == Try.prog.recurses 9) = true := by kernel_rfl
theorem fnExactReadSegs_f4 : (Rows.fnExactReadSegsRow.named == Try.prog.varsNamed 9) = true := by kernel_rfl
theorem fnExactReadSegs_facts : joinedFacts Try.prog 9 Try.f9 Rows.fnExactReadSegsSpec Rows.fnExactReadSegsRow = true := by
  unfold joinedFacts
  exact and_mk (and_mk (and_mk (and_mk (and_mk (and_mk (and_mk (and_mk (and_mk (and_mk (and_mk (and_mk (and_mk (and_mk (and_mk (and_mk (and_mk (and_mk (and_mk (and_mk (and_mk (and_mk (and_mk (and_mk (and_mk (and_mk (and_mk (and_mk (and_mk (and_mk (and_mk
    (by kernel_rfl) Try.laidOut) Try.fRowed) (by kernel_rfl)) (by kernel_rfl)) (by kernel_rfl)) Try.fStops) (by kernel_rfl)) Try.fKnobs) fnExactReadSegs_f1) fnExactReadSegs_f2) fnExactReadSegs_f3) fnExactReadSegs_f4)
    (by kernel_rfl)) (by kernel_rfl)) (by kernel_rfl)) (by kernel_rfl)) (by kernel_rfl)) (by kernel_rfl)) (by kernel_rfl)) (by kernel_rfl)) (by kernel_rfl)) Try.fKeys) (by kernel_rfl)) Try.fHeard) Try.fEnter) Try.fLifted) Try.fMake) (by kernel_rfl)) (by kernel_rfl)) (by kernel_rfl)) (by kernel_rfl)
theorem fnExactReadSegs_holds : Rows.FnExactReadSegsSaid :=
  OpenClaim.holds_of_wide 9 Try.f9 rfl rfl rfl rfl rfl rfl rfl ⟨rfl, rfl, rfl, rfl, rfl⟩ rfl rfl rfl rfl rfl (by kernel_rfl) Try.func9 fnExactReadSegs_facts
    (of_decide_eq_true (by kernel_rfl)) (by unfold Func.isWrapper; first | (rw [if_pos (by decide +kernel)]; kernel_rfl) | (rw [if_neg (by decide +kernel)]; exact ⟨rfl, rfl⟩))
    (fun os started H enc _ => fnExactReadSegs_lifted os started H enc)
end Go.Proofs.Ytakllmgiobpmgaa
