import Derived.Test.YtakllmgiobpmgaaEngD
import Derived.Test.YtakllmgiobpmgaaE11Tie
import Derived.Test.YtakllmgiobpmgaaE11Fn
import Derived.Test.YtakllmgiobpmgaaFacts
/- Cheapest: the costs told are proved, one more of a place is not, each way told costs what is told, and the quickest has at least as many steps as the places between. -/
set_option linter.unusedSimpArgs false
set_option linter.deprecated false
set_option linter.unusedSectionVars false
set_option linter.unusedVariables false
set_option maxRecDepth 100000
open Go Go.Proofs
noncomputable section
namespace Go.Sm.E11
abbrev S : List Nat := [34, 5]
theorem wf_5 (x : Int) (h : ∀ d ∈ T.dget 5 x, WfD T d) : rng 0 255 x := by
  have h : ∀ d ∈ ([.int .u8 x] : List (D T.U)), WfD T d := h
  exact (WfD.i (h _ (.head _)))
theorem wf_34 (x : List Int) (h : ∀ d ∈ T.dget 34 x, WfD T d) : (x.length ≤ 9223372036854775807 ∧ ∀ y ∈ x, rng 0 255 y) := by
  have h : ∀ d ∈ ([.arr 5 x] : List (D T.U)), WfD T d := h
  exact ⟨(WfD.a (h _ (.head _))).1, fun y hy => wf_5 y ((WfD.a (h _ (.head _))).2 y hy)⟩
theorem rd_34 : RdT T S 34 := by
  have hm : ∀ ds, SameL (T.dget 34 (T.dflt 34)) ds → ∃ x, T.dset 34 ds = some x := by
    intro ds h
    obtain ⟨c0, r0, rfl, ⟨b0, rfl⟩, h⟩ := h
    cases h
    exact some_of (by kernel_rfl)
  exact .ofSlice (e := 5) (by kernel_rfl) hm rfl ⟨_, rfl⟩ (by decide)
theorem rd_5 : RdT T S 5 := by
  have hm : ∀ ds, SameL (T.dget 5 (T.dflt 5)) ds → ∃ x, T.dset 5 ds = some x := by
    intro ds h
    obtain ⟨c0, r0, rfl, ⟨b0, rfl⟩, h⟩ := h
    cases h
    exact some_of (by kernel_rfl)
  exact .ofInt (by kernel_rfl) hm rfl ⟨_, rfl⟩
theorem rds : ∀ t ∈ S, RdT T S t := List.forall_mem_cons.2 ⟨rd_34, List.forall_mem_cons.2 ⟨rd_5, fun _ h => nomatch h⟩⟩
theorem law_call : ∀ ar, ArgsAre T Try.f11.params.toList ar → CallOk Try.prog T 11 ar (laws_FnCheapest_enc true) := by
  intro ar h
  rw [Try.params11] at h
  obtain ⟨y0, r0, rfl, w0, rfl⟩ := h
  obtain ⟨n, hn⟩ := laws_FnCheapest_true y0 (wf_34 y0 w0)
  exact call_of (phiE_nat _ _) (sem n 25) ok mixed Try.func11 (c := laws_FnCheapest_code) (by kernel_rfl) (laws_FnCheapest_lo n) (by kernel_rfl) (by kernel_rfl) (by kernel_rfl) laws_FnCheapest_de ((laws_FnCheapest_tie n y0).trans hn)
end Go.Sm.E11
namespace Go.Proofs.Ytakllmgiobpmgaa
open Go.ChangeShapes Go.WideShapes Go.ChangeAt Go.RowKit Go.Sm Go.Sm.E11
theorem fnCheapest_lifted (os : Os) (started : os.Started) (H : Type) (enc : TypeId × Value → H) :
    ReturnsInHanded {} Try.checked os 11 .any (Rows.fnCheapestSpec.pre6 enc Try.prog Try.f11 Rows.fnCheapestRow.domain false) (Rows.fnCheapestSpec.post enc Try.prog Try.f11 false true false false) := by
  refine returnsInHanded_of_change (C := Try.checked) Try.own started (by kernel_rfl) Try.func11
    (ChangeSpec.witness6 (enc := enc) (C := Try.checked) false ⟨#[], #[.slice none 0 0], []⟩ 8 (by kernel_rfl) (by kernel_rfl) (by kernel_rfl) (by kernel_rfl)) ?_
  intro W base args ds gs before hval hW _ _
  exact row_of (P := Try.prog) (T := T) (s := Rows.fnCheapestSpec) (fn := Try.f11) (tb := 4) ok rds Try.laidOut (by rw [Try.params11]; decide)
    (by rw [Try.params11]; exact List.forall_mem_cons.2 ⟨⟨by kernel_rfl, of_decide_eq_true (by kernel_rfl)⟩, fun _ h => nomatch h⟩) (by rw [Try.params11]; rfl) rfl (by rw [Try.params11]; intro ds h; match ds, h with | [d0], _ => rfl) (by rfl) Try.underlying4 hval hW rfl law_call
theorem fnCheapest_f1 : (Rows.fnCheapestRow.inPlace == Try.prog.inPlace 11) = true := by kernel_rfl
theorem fnCheapest_f2 : (Rows.fnCheapestRow.unfollowed == Try.prog.unfollowed 11) = true := by kernel_rfl
theorem fnCheapest_f3 : (Rows.fnCheapestRow.recurses == Try.prog.recurses 11) = true := by kernel_rfl
theorem fnCheapest_f4 : (Rows.fnCheapestRow.named == Try.prog.varsNamed 11) = true := by kernel_rfl
theorem fnCheapest_facts : joinedFacts Try.prog 11 Try.f11 Rows.fnCheapestSpec Rows.fnCheapestRow = true := by
  unfold joinedFacts
  exact and_mk (and_mk (and_mk (and_mk (and_mk (and_mk (and_mk (and_mk (and_mk (and_mk (and_mk (and_mk (and_mk (and_mk (and_mk (and_mk (and_mk (and_mk (and_mk (and_mk (and_mk (and_mk (and_mk (and_mk (and_mk (and_mk (and_mk (and_mk (and_mk (and_mk (and_mk
    (by kernel_rfl) Try.laidOut) Try.fRowed) (by kernel_rfl)) (by kernel_rfl)) (by kernel_rfl)) Try.fStops) (by kernel_rfl)) Try.fKnobs) fnCheapest_f1) fnCheapest_f2) fnCheapest_f3) fnCheapest_f4)
    (by kernel_rfl)) (by kernel_rfl)) (by kernel_rfl)) (by kernel_rfl)) (by kernel_rfl)) (by kernel_rfl)) (by kernel_rfl)) (by kernel_rfl)) (by kernel_rfl)) Try.fKeys) (by kernel_rfl)) Try.fHeard) Try.fEnter) Try.fLifted) Try.fMake) (by kernel_rfl)) (by kernel_rfl)) (by kernel_rfl)) (by kernel_rfl)
theorem fnCheapest_holds : Rows.FnCheapestSaid :=
  OpenClaim.holds_of_wide 11 Try.f11 rfl rfl rfl rfl rfl rfl rfl ⟨rfl, rfl, rfl, rfl, rfl⟩ rfl rfl rfl rfl rfl (by kernel_rfl) Try.func11 fnCheapest_facts
    (of_decide_eq_true (by kernel_rfl)) (by unfold Func.isWrapper; first | (rw [if_pos (by decide +kernel)]; kernel_rfl) | (rw [if_neg (by decide +kernel)]; exact ⟨rfl, rfl⟩))
    (fun os started H enc _ => fnCheapest_lifted os started H enc)
end Go.Proofs.Ytakllmgiobpmgaa
