import Derived.Test.YtakllmgiobpmgaaEngD
import Derived.Test.YtakllmgiobpmgaaE6Tie
import Derived.Test.YtakllmgiobpmgaaE6Fn
import Derived.Test.YtakllmgiobpmgaaFacts
/- Berths: of drawn quays all that can be berthed is berthed, none over another, and nothing that lay is moved. -/
set_option linter.unusedSimpArgs false
set_option linter.deprecated false
set_option linter.unusedSectionVars false
set_option linter.unusedVariables false
set_option maxRecDepth 100000
open Go Go.Proofs
noncomputable section
namespace Go.Sm.E6
abbrev S : List Nat := [34, 5]
theorem wf_5 (x : Int) (h : ∀ d ∈ T.dget 5 x, WfD T d) : rng 0 255 x := by
  have h : ∀ d ∈ ([.int .u8 x] : List (D T.U)), WfD T d := h
  exact (WfD.i (h _ (.head _)))
theorem wf_34 (x : List Int) (h : ∀ d ∈ T.dget 34 x, WfD T d) : (x.length ≤ 9223372036854775807 ∧ ∀ y ∈ x, rng 0 255 y) := by
  have h : ∀ d ∈ ([.arr 5 x] : List (D T.U)), WfD T d := h
  exact ⟨(WfD.a (h _ (.head _))).1, fun y hy => wf_5 y ((WfD.a (h _ (.head _))).2 y hy)⟩
theorem rd_34 : RdT T S 34 := by
  have hm : ∀ ds, SameL (T.dget 34 (T.dflt 34)) ds → ∃ x, T.dset 34 ds = some x := by
    intro ds h
    obtain ⟨c0, r0, rfl, ⟨b0, rfl⟩, h⟩ := h
    cases h
    exact some_of (by kernel_rfl)
  exact .ofSlice (e := 5) (by kernel_rfl) hm rfl ⟨_, rfl⟩ (by decide)
theorem rd_5 : RdT T S 5 := by
  have hm : ∀ ds, SameL (T.dget 5 (T.dflt 5)) ds → ∃ x, T.dset 5 ds = some x := by
    intro ds h
    obtain ⟨c0, r0, rfl, ⟨b0, rfl⟩, h⟩ := h
    cases h
    exact some_of (by kernel_rfl)
  exact .ofInt (by kernel_rfl) hm rfl ⟨_, rfl⟩
theorem rds : ∀ t ∈ S, RdT T S t := List.forall_mem_cons.2 ⟨rd_34, List.forall_mem_cons.2 ⟨rd_5, fun _ h => nomatch h⟩⟩
theorem law_call : ∀ ar, ArgsAre T Try.f6.params.toList ar → CallOk Try.prog T 6 ar (laws_FnBerths_enc true) := by
  intro ar h
  rw [Try.params6] at h
  obtain ⟨y0, r0, rfl, w0, rfl⟩ := h
  obtain ⟨n, hn⟩ := laws_FnBerths_true y0 (wf_34 y0 w0)
  exact call_of (phiE_nat _ _) (sem n 41) ok mixed Try.func6 (c := laws_FnBerths_code) (by kernel_rfl) (laws_FnBerths_lo n) (by kernel_rfl) (by kernel_rfl) (by kernel_rfl) laws_FnBerths_de ((laws_FnBerths_tie n y0).trans hn)
end Go.Sm.E6
namespace Go.Proofs.Ytakllmgiobpmgaa
open Go.ChangeShapes Go.WideShapes Go.ChangeAt Go.RowKit Go.Sm Go.Sm.E6
theorem fnBerths_lifted (os : Os) (started : os.Started) (H : Type) (enc : TypeId × Value → H) :
    ReturnsInHanded {} Try.checked os 6 .any (Rows.fnBerthsSpec.pre6 enc Try.prog Try.f6 Rows.fnBerthsRow.domain false) (Rows.fnBerthsSpec.post enc Try.prog Try.f6 false true false false) := by
  refine returnsInHanded_of_change (C := Try.checked) Try.own started (by kernel_rfl) Try.func6
    (ChangeSpec.witness6 (enc := enc) (C := Try.checked) false ⟨#[], #[.slice none 0 0], []⟩ 8 (by kernel_rfl) (by kernel_rfl) (by kernel_rfl) (by kernel_rfl)) ?_
  intro W base args ds gs before hval hW _ _
  exact row_of (P := Try.prog) (T := T) (s := Rows.fnBerthsSpec) (fn := Try.f6) (tb := 4) ok rds Try.laidOut (by rw [Try.params6]; decide)
    (by rw [Try.params6]; exact List.forall_mem_cons.2 ⟨⟨by kernel_rfl, of_decide_eq_true (by kernel_rfl)⟩, fun _ h => nomatch h⟩) (by rw [Try.params6]; rfl) rfl (by rw [Try.params6]; intro ds h; match ds, h with | [d0], _ => rfl) (by rfl) Try.underlying4 hval hW rfl law_call
theorem fnBerths_f1 : (Rows.fnBerthsRow.inPlace == Try.prog.inPlace 6) = true := by kernel_rfl
theorem fnBerths_f2 : (Rows.fnBerthsRow.unfollowed == Try.prog.unfollowed 6) = true := by kernel_rfl
theorem fnBerths_f3 : (Rows.fnBerthsRow.recurses == Try.prog.recurses 6) = true := by kernel_rfl
theorem fnBerths_f4 : (Rows.fnBerthsRow.named == Try.prog.varsNamed 6) = true := by kernel_rfl
theorem fnBerths_facts : joinedFacts Try.prog 6 Try.f6 Rows.fnBerthsSpec Rows.fnBerthsRow = true := by
  unfold joinedFacts
  exact and_mk (and_mk (and_mk (and_mk (and_mk (and_mk (and_mk (and_mk (and_mk (and_mk (and_mk (and_mk (and_mk (and_mk (and_mk (and_mk (and_mk (and_mk (and_mk (and_mk (and_mk (and_mk (and_mk (and_mk (and_mk (and_mk (and_mk (and_mk (and_mk (and_mk (and_mk
    (by kernel_rfl) Try.laidOut) Try.fRowed) (by kernel_rfl)) (by kernel_rfl)) (by kernel_rfl)) Try.fStops) (by kernel_rfl)) Try.fKnobs) fnBerths_f1) fnBerths_f2) fnBerths_f3) fnBerths_f4)
    (by kernel_rfl)) (by kernel_rfl)) (by kernel_rfl)) (by kernel_rfl)) (by kernel_rfl)) (by kernel_rfl)) (by kernel_rfl)) (by kernel_rfl)) (by kernel_rfl)) Try.fKeys) (by kernel_rfl)) Try.fHeard) Try.fEnter) Try.fLifted) Try.fMake) (by kernel_rfl)) (by kernel_rfl)) (by kernel_rfl)) (by kernel_rfl)
theorem fnBerths_holds : Rows.FnBerthsSaid :=
  OpenClaim.holds_of_wide 6 Try.f6 rfl rfl rfl rfl rfl rfl rfl ⟨rfl, rfl, rfl, rfl, rfl⟩ rfl rfl rfl rfl rfl (by kernel_rfl) Try.func6 fnBerths_facts
    (of_decide_eq_true (by kernel_rfl)) (by unfold Func.isWrapper; first | (rw [if_pos (by decide +kernel)]; kernel_rfl) | (rw [if_neg (by decide +kernel)]; exact ⟨rfl, rfl⟩))
    (fun os started H enc _ => fnBerths_lifted os started H enc)
end Go.Proofs.Ytakllmgiobpmgaa
