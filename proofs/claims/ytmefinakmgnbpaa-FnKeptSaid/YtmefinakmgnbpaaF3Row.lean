import Derived.Test.YtmefinakmgnbpaaEngD
import Derived.Test.YtmefinakmgnbpaaF3Tie
import Derived.Test.YtmefinakmgnbpaaF3Fn
import Derived.Test.YtmefinakmgnbpaaFacts
/- Kept: what the drawn calls of functions are handed is not changed by them. -/
set_option linter.unusedSimpArgs false
set_option linter.deprecated false
set_option linter.unusedSectionVars false
set_option linter.unusedVariables false
set_option maxRecDepth 100000
open Go Go.Proofs
noncomputable section
namespace Go.Sm.F3
abbrev S : List Nat := [22, 5]
theorem wf_5 (x : Int) (h : ∀ d ∈ T.dget 5 x, WfD T d) : rng 0 255 x := by
  have h : ∀ d ∈ ([.int .u8 x] : List (D T.U)), WfD T d := h
  exact (WfD.i (h _ (.head _)))
theorem wf_22 (x : List Int) (h : ∀ d ∈ T.dget 22 x, WfD T d) : (x.length ≤ 9223372036854775807 ∧ ∀ y ∈ x, rng 0 255 y) := by
  have h : ∀ d ∈ ([.arr 5 x] : List (D T.U)), WfD T d := h
  exact ⟨(WfD.a (h _ (.head _))).1, fun y hy => wf_5 y ((WfD.a (h _ (.head _))).2 y hy)⟩
theorem rd_22 : RdT T S 22 := by
  have hm : ∀ ds, SameL (T.dget 22 (T.dflt 22)) ds → ∃ x, T.dset 22 ds = some x := by
    intro ds h
    obtain ⟨c0, r0, rfl, ⟨b0, rfl⟩, h⟩ := h
    cases h
    exact some_of (by kernel_rfl)
  exact .ofSlice (e := 5) (by kernel_rfl) hm rfl ⟨_, rfl⟩ (by decide)
theorem rd_5 : RdT T S 5 := by
  have hm : ∀ ds, SameL (T.dget 5 (T.dflt 5)) ds → ∃ x, T.dset 5 ds = some x := by
    intro ds h
    obtain ⟨c0, r0, rfl, ⟨b0, rfl⟩, h⟩ := h
    cases h
    exact some_of (by kernel_rfl)
  exact .ofInt (by kernel_rfl) hm rfl ⟨_, rfl⟩
theorem rds : ∀ t ∈ S, RdT T S t := List.forall_mem_cons.2 ⟨rd_22, List.forall_mem_cons.2 ⟨rd_5, fun _ h => nomatch h⟩⟩
theorem law_call : ∀ ar, ArgsAre T Try.f3.params.toList ar → CallOk Try.prog T 3 ar (laws_FnKept_enc true) := by
  intro ar h
  rw [Try.params3] at h
  obtain ⟨y0, r0, rfl, w0, rfl⟩ := h
  obtain ⟨n, hn⟩ := laws_FnKept_true y0 (wf_22 y0 w0)
  exact call_of (phiE_nat _ _) (sem n 40) ok mixed Try.func3 (c := laws_FnKept_code) (by kernel_rfl) (laws_FnKept_lo n) (by kernel_rfl) (by kernel_rfl) (by kernel_rfl) laws_FnKept_de ((laws_FnKept_tie n y0).trans hn)
end Go.Sm.F3
namespace Go.Proofs.Ytmefinakmgnbpaa
open Go.ChangeShapes Go.WideShapes Go.ChangeAt Go.RowKit Go.Sm Go.Sm.F3
theorem fnKept_lifted (os : Os) (started : os.Started) (H : Type) (enc : TypeId × Value → H) :
    ReturnsInHanded {} Try.checked os 3 .any (Rows.fnKeptSpec.pre6 enc Try.prog Try.f3 Rows.fnKeptRow.domain false) (Rows.fnKeptSpec.post enc Try.prog Try.f3 false true false false) := by
  refine returnsInHanded_of_change (C := Try.checked) Try.own started (by kernel_rfl) Try.func3
    (ChangeSpec.witness6 (enc := enc) (C := Try.checked) false ⟨#[], #[.slice none 0 0], []⟩ 8 (by kernel_rfl) (by kernel_rfl) (by kernel_rfl) (by kernel_rfl)) ?_
  intro W base args ds gs before hval hW _ _
  exact row_of (P := Try.prog) (T := T) (s := Rows.fnKeptSpec) (fn := Try.f3) (tb := 4) ok rds Try.laidOut (by rw [Try.params3]; decide)
    (by rw [Try.params3]; exact List.forall_mem_cons.2 ⟨⟨by kernel_rfl, of_decide_eq_true (by kernel_rfl)⟩, fun _ h => nomatch h⟩) (by rw [Try.params3]; rfl) rfl (by rw [Try.params3]; intro ds h; match ds, h with | [d0], _ => rfl) (by rfl) Try.underlying4 hval hW rfl law_call
theorem fnKept_f1 : (Rows.fnKeptRow.inPlace == Try.prog.inPlace 3) = true := by kernel_rfl
theorem fnKept_f2 : (Rows.fnKeptRow.unfollowed == Try.prog.unfollowed 3) = true := by kernel_rfl
theorem fnKept_f3 : (Rows.fnKeptRow.recurses == Try.prog.recurses 3) = true := by kernel_rfl
theorem fnKept_f4 : (Rows.fnKeptRow.named == Try.prog.varsNamed 3) = true := by kernel_rfl
theorem fnKept_facts : joinedFacts Try.prog 3 Try.f3 Rows.fnKeptSpec Rows.fnKeptRow = true := by
  unfold joinedFacts
  exact and_mk (and_mk (and_mk (and_mk (and_mk (and_mk (and_mk (and_mk (and_mk (and_mk (and_mk (and_mk (and_mk (and_mk (and_mk (and_mk (and_mk (and_mk (and_mk (and_mk (and_mk (and_mk (and_mk (and_mk (and_mk (and_mk (and_mk (and_mk (and_mk (and_mk (and_mk
    (by kernel_rfl) Try.laidOut) Try.fRowed) (by kernel_rfl)) (by kernel_rfl)) (by kernel_rfl)) Try.fStops) (by kernel_rfl)) Try.fKnobs) fnKept_f1) fnKept_f2) fnKept_f3) fnKept_f4)
    (by kernel_rfl)) (by kernel_rfl)) (by kernel_rfl)) (by kernel_rfl)) (by kernel_rfl)) (by kernel_rfl)) (by kernel_rfl)) (by kernel_rfl)) (by kernel_rfl)) Try.fKeys) (by kernel_rfl)) Try.fHeard) Try.fEnter) Try.fLifted) Try.fMake) (by kernel_rfl)) (by kernel_rfl)) (by kernel_rfl)) (by kernel_rfl)
theorem fnKept_holds : Rows.FnKeptSaid :=
  OpenClaim.holds_of_wide 3 Try.f3 rfl rfl rfl rfl rfl rfl rfl ⟨rfl, rfl, rfl, rfl, rfl⟩ rfl rfl rfl rfl rfl (by kernel_rfl) Try.func3 fnKept_facts
    (of_decide_eq_true (by kernel_rfl)) (by unfold Func.isWrapper; first | (rw [if_pos (by decide +kernel)]; kernel_rfl) | (rw [if_neg (by decide +kernel)]; exact ⟨rfl, rfl⟩))
    (fun os started H enc _ => fnKept_lifted os started H enc)
end Go.Proofs.Ytmefinakmgnbpaa
