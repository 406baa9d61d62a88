import Derived.Test.YtakllmgiobpmgaaEngD
import Derived.Test.YtakllmgiobpmgaaE8Tie
import Derived.Test.YtakllmgiobpmgaaE8Fn
import Derived.Test.YtakllmgiobpmgaaFacts
/- Title: along the drawn ops of a drawn book goods are handed over at most once, to who held an original; what is refused changes nothing; title is one's. -/
set_option linter.unusedSimpArgs false
set_option linter.deprecated false
set_option linter.unusedSectionVars false
set_option linter.unusedVariables false
set_option maxRecDepth 100000
open Go Go.Proofs
noncomputable section
namespace Go.Sm.E8
abbrev S : List Nat := [34, 5]
theorem wf_5 (x : Int) (h : ∀ d ∈ T.dget 5 x, WfD T d) : rng 0 255 x := by
  have h : ∀ d ∈ ([.int .u8 x] : List (D T.U)), WfD T d := h
  exact (WfD.i (h _ (.head _)))
theorem wf_34 (x : List Int) (h : ∀ d ∈ T.dget 34 x, WfD T d) : (x.length ≤ 9223372036854775807 ∧ ∀ y ∈ x, rng 0 255 y) := by
  have h : ∀ d ∈ ([.arr 5 x] : List (D T.U)), WfD T d := h
  exact ⟨(WfD.a (h _ (.head _))).1, fun y hy => wf_5 y ((WfD.a (h _ (.head _))).2 y hy)⟩
theorem rd_34 : RdT T S 34 := by
  have hm : ∀ ds, SameL (T.dget 34 (T.dflt 34)) ds → ∃ x, T.dset 34 ds = some x := by
    intro ds h
    obtain ⟨c0, r0, rfl, ⟨b0, rfl⟩, h⟩ := h
    cases h
    exact some_of (by kernel_rfl)
  exact .ofSlice (e := 5) (by kernel_rfl) hm rfl ⟨_, rfl⟩ (by decide)
theorem rd_5 : RdT T S 5 := by
  have hm : ∀ ds, SameL (T.dget 5 (T.dflt 5)) ds → ∃ x, T.dset 5 ds = some x := by
    intro ds h
    obtain ⟨c0, r0, rfl, ⟨b0, rfl⟩, h⟩ := h
    cases h
    exact some_of (by kernel_rfl)
  exact .ofInt (by kernel_rfl) hm rfl ⟨_, rfl⟩
theorem rds : ∀ t ∈ S, RdT T S t := List.forall_mem_cons.2 ⟨rd_34, List.forall_mem_cons.2 ⟨rd_5, fun _ h => nomatch h⟩⟩
theorem law_call : ∀ ar, ArgsAre T Try.f8.params.toList ar → CallOk Try.prog T 8 ar (laws_FnTitle_enc true) := by
  intro ar h
  rw [Try.params8] at h
  obtain ⟨y0, r0, rfl, w0, rfl⟩ := h
  obtain ⟨n, hn⟩ := laws_FnTitle_true y0 (wf_34 y0 w0)
  exact call_of (phiE_nat _ _) (sem n 53) ok mixed Try.func8 (c := laws_FnTitle_code) (by kernel_rfl) (laws_FnTitle_lo n) (by kernel_rfl) (by kernel_rfl) (by kernel_rfl) laws_FnTitle_de ((laws_FnTitle_tie n y0).trans hn)
end Go.Sm.E8
namespace Go.Proofs.Ytakllmgiobpmgaa
open Go.ChangeShapes Go.WideShapes Go.ChangeAt Go.RowKit Go.Sm Go.Sm.E8
theorem fnTitle_lifted (os : Os) (started : os.Started) (H : Type) (enc : TypeId × Value → H) :
    ReturnsInHanded {} Try.checked os 8 .any (Rows.fnTitleSpec.pre6 enc Try.prog Try.f8 Rows.fnTitleRow.domain false) (Rows.fnTitleSpec.post enc Try.prog Try.f8 false true false false) := by
  refine returnsInHanded_of_change (C := Try.checked) Try.own started (by kernel_rfl) Try.func8
    (ChangeSpec.witness6 (enc := enc) (C := Try.checked) false ⟨#[], #[.slice none 0 0], []⟩ 8 (by kernel_rfl) (by kernel_rfl) (by kernel_rfl) (by kernel_rfl)) ?_
  intro W base args ds gs before hval hW _ _
  exact row_of (P := Try.prog) (T := T) (s := Rows.fnTitleSpec) (fn := Try.f8) (tb := 4) ok rds Try.laidOut (by rw [Try.params8]; decide)
    (by rw [Try.params8]; exact List.forall_mem_cons.2 ⟨⟨by kernel_rfl, of_decide_eq_true (by kernel_rfl)⟩, fun _ h => nomatch h⟩) (by rw [Try.params8]; rfl) rfl (by rw [Try.params8]; intro ds h; match ds, h with | [d0], _ => rfl) (by rfl) Try.underlying4 hval hW rfl law_call
theorem fnTitle_f1 : (Rows.fnTitleRow.inPlace == Try.prog.inPlace 8) = true := by kernel_rfl
theorem fnTitle_f2 : (Rows.fnTitleRow.unfollowed == Try.prog.unfollowed 8) = true := by kernel_rfl
theorem fnTitle_f3 : (Rows.fnTitleRow.recurses == Try.prog.recurses 8) = true := by kernel_rfl
theorem fnTitle_f4 : (Rows.fnTitleRow.named == Try.prog.varsNamed 8) = true := by kernel_rfl
theorem fnTitle_facts : joinedFacts Try.prog 8 Try.f8 Rows.fnTitleSpec Rows.fnTitleRow = true := by
  unfold joinedFacts
  exact and_mk (and_mk (and_mk (and_mk (and_mk (and_mk (and_mk (and_mk (and_mk (and_mk (and_mk (and_mk (and_mk (and_mk (and_mk (and_mk (and_mk (and_mk (and_mk (and_mk (and_mk (and_mk (and_mk (and_mk (and_mk (and_mk (and_mk (and_mk (and_mk (and_mk (and_mk
    (by kernel_rfl) Try.laidOut) Try.fRowed) (by kernel_rfl)) (by kernel_rfl)) (by kernel_rfl)) Try.fStops) (by kernel_rfl)) Try.fKnobs) fnTitle_f1) fnTitle_f2) fnTitle_f3) fnTitle_f4)
    (by kernel_rfl)) (by kernel_rfl)) (by kernel_rfl)) (by kernel_rfl)) (by kernel_rfl)) (by kernel_rfl)) (by kernel_rfl)) (by kernel_rfl)) (by kernel_rfl)) Try.fKeys) (by kernel_rfl)) Try.fHeard) Try.fEnter) Try.fLifted) Try.fMake) (by kernel_rfl)) (by kernel_rfl)) (by kernel_rfl)) (by kernel_rfl)
theorem fnTitle_holds : Rows.FnTitleSaid :=
  OpenClaim.holds_of_wide 8 Try.f8 rfl rfl rfl rfl rfl rfl rfl ⟨rfl, rfl, rfl, rfl, rfl⟩ rfl rfl rfl rfl rfl (by kernel_rfl) Try.func8 fnTitle_facts
    (of_decide_eq_true (by kernel_rfl)) (by unfold Func.isWrapper; first | (rw [if_pos (by decide +kernel)]; kernel_rfl) | (rw [if_neg (by decide +kernel)]; exact ⟨rfl, rfl⟩))
    (fun os started H enc _ => fnTitle_lifted os started H enc)
end Go.Proofs.Ytakllmgiobpmgaa
