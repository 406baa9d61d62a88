import Derived.Test.YtmefinakmgnbpaaEngD
import Derived.Test.YtmefinakmgnbpaaF4Tie
import Derived.Test.YtmefinakmgnbpaaF4Fn
import Derived.Test.YtmefinakmgnbpaaFacts
/- Fewest: the search answers as the written-out way, and gives an own list. -/
set_option linter.unusedSimpArgs false
set_option linter.deprecated false
set_option linter.unusedSectionVars false
set_option linter.unusedVariables false
set_option maxRecDepth 100000
open Go Go.Proofs
noncomputable section
namespace Go.Sm.F4
abbrev S : List Nat := [40, 99, 3, 41, 91, 9, 4]
theorem wf_99 (x : SHatch) (h : ∀ d ∈ T.dget 99 x, WfD T d) : wfSHatch x := by
  have h : ∀ d ∈ ([.int .i64 x.Rows, .int .i64 x.Tiers, .int .i64 x.Most, .int .i64 x.Plugs] : List (D T.U)), WfD T d := h
  exact ⟨(WfD.i (h _ (.head _))), (WfD.i (h _ (.tail _ (.head _)))), (WfD.i (h _ (.tail _ (.tail _ (.head _))))), (WfD.i (h _ (.tail _ (.tail _ (.tail _ (.head _))))))⟩
theorem wf_40 (x : List SHatch) (h : ∀ d ∈ T.dget 40 x, WfD T d) : (x.length ≤ 9223372036854775807 ∧ ∀ y ∈ x, wfSHatch y) := by
  have h : ∀ d ∈ ([.arr 99 x] : List (D T.U)), WfD T d := h
  exact ⟨(WfD.a (h _ (.head _))).1, fun y hy => wf_99 y ((WfD.a (h _ (.head _))).2 y hy)⟩
theorem wf_91 (x : SBox) (h : ∀ d ∈ T.dget 91 x, WfD T d) : wfSBox x := by
  have h : ∀ d ∈ ([.str x.Name, .int .i64 x.Weight, .int .i64 x.Class, .bool x.Cold, .int .i64 x.From, .int .i64 x.To] : List (D T.U)), WfD T d := h
  exact ⟨(WfD.s (h _ (.head _))), (WfD.i (h _ (.tail _ (.head _)))), (WfD.i (h _ (.tail _ (.tail _ (.head _))))), trivial, (WfD.i (h _ (.tail _ (.tail _ (.tail _ (.tail _ (.head _))))))), (WfD.i (h _ (.tail _ (.tail _ (.tail _ (.tail _ (.tail _ (.head _))))))))⟩
theorem wf_41 (x : List SBox) (h : ∀ d ∈ T.dget 41 x, WfD T d) : (x.length ≤ 9223372036854775807 ∧ ∀ y ∈ x, wfSBox y) := by
  have h : ∀ d ∈ ([.arr 91 x] : List (D T.U)), WfD T d := h
  exact ⟨(WfD.a (h _ (.head _))).1, fun y hy => wf_91 y ((WfD.a (h _ (.head _))).2 y hy)⟩
theorem rd_40 : RdT T S 40 := by
  have hm : ∀ ds, SameL (T.dget 40 (T.dflt 40)) ds → ∃ x, T.dset 40 ds = some x := by
    intro ds h
    obtain ⟨c0, r0, rfl, ⟨b0, rfl⟩, h⟩ := h
    cases h
    exact some_of (by kernel_rfl)
  exact .ofSlice (e := 99) (by kernel_rfl) hm rfl ⟨_, rfl⟩ (by decide)
theorem rd_99 : RdT T S 99 := by
  have hm : ∀ ds, SameL (T.dget 99 (T.dflt 99)) ds → ∃ x, T.dset 99 ds = some x := by
    intro ds h
    obtain ⟨c0, r0, rfl, ⟨b0, rfl⟩, h⟩ := h
    obtain ⟨c1, r1, rfl, ⟨b1, rfl⟩, h⟩ := h
    obtain ⟨c2, r2, rfl, ⟨b2, rfl⟩, h⟩ := h
    obtain ⟨c3, r3, rfl, ⟨b3, rfl⟩, h⟩ := h
    cases h
    exact some_of (by kernel_rfl)
  exact .ofStruct (fs := [(0, 3), (1, 3), (2, 3), (3, 3)]) (by kernel_rfl) hm (by kernel_rfl) (by kernel_rfl) (by kernel_rfl) (by decide)
theorem rd_3 : RdT T S 3 := by
  have hm : ∀ ds, SameL (T.dget 3 (T.dflt 3)) ds → ∃ x, T.dset 3 ds = some x := by
    intro ds h
    obtain ⟨c0, r0, rfl, ⟨b0, rfl⟩, h⟩ := h
    cases h
    exact some_of (by kernel_rfl)
  exact .ofInt (by kernel_rfl) hm rfl ⟨_, rfl⟩
theorem rd_41 : RdT T S 41 := by
  have hm : ∀ ds, SameL (T.dget 41 (T.dflt 41)) ds → ∃ x, T.dset 41 ds = some x := by
    intro ds h
    obtain ⟨c0, r0, rfl, ⟨b0, rfl⟩, h⟩ := h
    cases h
    exact some_of (by kernel_rfl)
  exact .ofSlice (e := 91) (by kernel_rfl) hm rfl ⟨_, rfl⟩ (by decide)
theorem rd_91 : RdT T S 91 := by
  have hm : ∀ ds, SameL (T.dget 91 (T.dflt 91)) ds → ∃ x, T.dset 91 ds = some x := by
    intro ds h
    obtain ⟨c0, r0, rfl, ⟨b0, rfl⟩, h⟩ := h
    obtain ⟨c1, r1, rfl, ⟨b1, rfl⟩, h⟩ := h
    obtain ⟨c2, r2, rfl, ⟨b2, rfl⟩, h⟩ := h
    obtain ⟨c3, r3, rfl, ⟨b3, rfl⟩, h⟩ := h
    obtain ⟨c4, r4, rfl, ⟨b4, rfl⟩, h⟩ := h
    obtain ⟨c5, r5, rfl, ⟨b5, rfl⟩, h⟩ := h
    cases h
    exact some_of (by kernel_rfl)
  exact .ofStruct (fs := [(0, 9), (1, 3), (2, 3), (3, 4), (4, 3), (5, 3)]) (by kernel_rfl) hm (by kernel_rfl) (by kernel_rfl) (by kernel_rfl) (by decide)
theorem rd_9 : RdT T S 9 := by
  have hm : ∀ ds, SameL (T.dget 9 (T.dflt 9)) ds → ∃ x, T.dset 9 ds = some x := by
    intro ds h
    obtain ⟨c0, r0, rfl, ⟨b0, rfl⟩, h⟩ := h
    cases h
    exact some_of (by kernel_rfl)
  exact .ofStr (by kernel_rfl) hm rfl ⟨_, rfl⟩
theorem rd_4 : RdT T S 4 := by
  have hm : ∀ ds, SameL (T.dget 4 (T.dflt 4)) ds → ∃ x, T.dset 4 ds = some x := by
    intro ds h
    obtain ⟨c0, r0, rfl, ⟨b0, rfl⟩, h⟩ := h
    cases h
    exact some_of (by kernel_rfl)
  exact .ofBool (by kernel_rfl) hm rfl ⟨_, rfl⟩
theorem rds : ∀ t ∈ S, RdT T S t := List.forall_mem_cons.2 ⟨rd_40, List.forall_mem_cons.2 ⟨rd_99, List.forall_mem_cons.2 ⟨rd_3, List.forall_mem_cons.2 ⟨rd_41, List.forall_mem_cons.2 ⟨rd_91, List.forall_mem_cons.2 ⟨rd_9, List.forall_mem_cons.2 ⟨rd_4, fun _ h => nomatch h⟩⟩⟩⟩⟩⟩⟩
theorem law_call : ∀ ar, ArgsAre T Try.f4.params.toList ar → CallOk Try.prog T 4 ar (laws_FnExactFewest_enc true) := by
  intro ar h
  rw [Try.params4] at h
  obtain ⟨y0, r0, rfl, w0, y1, r1, rfl, w1, rfl⟩ := h
  obtain ⟨n, hn⟩ := laws_FnExactFewest_true y0 y1 (wf_40 y0 w0) (wf_41 y1 w1)
  exact call_of (phiE_nat _ _) (sem n 87) ok mixed Try.func4 (c := laws_FnExactFewest_code) (by kernel_rfl) (laws_FnExactFewest_lo n) (by kernel_rfl) (by kernel_rfl) (by kernel_rfl) laws_FnExactFewest_de ((laws_FnExactFewest_tie n y0 y1).trans hn)
end Go.Sm.F4
namespace Go.Proofs.Ytmefinakmgnbpaa
open Go.ChangeShapes Go.WideShapes Go.ChangeAt Go.RowKit Go.Sm Go.Sm.F4
theorem fnExactFewest_lifted (os : Os) (started : os.Started) (H : Type) (enc : TypeId × Value → H) :
    ReturnsInHanded {} Try.checked os 4 .any (Rows.fnExactFewestSpec.pre6 enc Try.prog Try.f4 Rows.fnExactFewestRow.domain false) (Rows.fnExactFewestSpec.post enc Try.prog Try.f4 false true false false) := by
  refine returnsInHanded_of_change (C := Try.checked) Try.own started (by kernel_rfl) Try.func4
    (ChangeSpec.witness6 (enc := enc) (C := Try.checked) false ⟨#[], #[.slice none 0 0, .slice none 0 0], []⟩ 8 (by kernel_rfl) (by kernel_rfl) (by kernel_rfl) (by kernel_rfl)) ?_
  intro W base args ds gs before hval hW _ _
  exact row_of (P := Try.prog) (T := T) (s := Rows.fnExactFewestSpec) (fn := Try.f4) (tb := 4) ok rds Try.laidOut (by rw [Try.params4]; decide)
    (by rw [Try.params4]; exact List.forall_mem_cons.2 ⟨⟨by kernel_rfl, of_decide_eq_true (by kernel_rfl)⟩, List.forall_mem_cons.2 ⟨⟨by kernel_rfl, of_decide_eq_true (by kernel_rfl)⟩, fun _ h => nomatch h⟩⟩) (by rw [Try.params4]; rfl) rfl (by rw [Try.params4]; intro ds h; match ds, h with | [d0, d1], _ => rfl) (by rfl) Try.underlying4 hval hW rfl law_call
theorem fnExactFewest_f1 : (Rows.fnExactFewestRow.inPlace == Try.prog.inPlace 4) = true := by kernel_rfl
theorem fnExactFewest_f2 : (Rows.fnExactFewestRow.unfollowed == Try.prog.unfollowed 4) = true := by kernel_rfl
theorem fnExactFewest_f3 : (Rows.fnExactFewestRow.recurses == Try.prog.recurses 4) = true := by kernel_rfl
theorem fnExactFewest_f4 : (Rows.fnExactFewestRow.named == Try.prog.varsNamed 4) = true := by kernel_rfl
theorem fnExactFewest_facts : joinedFacts Try.prog 4 Try.f4 Rows.fnExactFewestSpec Rows.fnExactFewestRow = true := by
  unfold joinedFacts
  exact and_mk (and_mk (and_mk (and_mk (and_mk (and_mk (and_mk (and_mk (and_mk (and_mk (and_mk (and_mk (and_mk (and_mk (and_mk (and_mk (and_mk (and_mk (and_mk (and_mk (and_mk (and_mk (and_mk (and_mk (and_mk (and_mk (and_mk (and_mk (and_mk (and_mk (and_mk
    (by kernel_rfl) Try.laidOut) Try.fRowed) (by kernel_rfl)) (by kernel_rfl)) (by kernel_rfl)) Try.fStops) (by kernel_rfl)) Try.fKnobs) fnExactFewest_f1) fnExactFewest_f2) fnExactFewest_f3) fnExactFewest_f4)
    (by kernel_rfl)) (by kernel_rfl)) (by kernel_rfl)) (by kernel_rfl)) (by kernel_rfl)) (by kernel_rfl)) (by kernel_rfl)) (by kernel_rfl)) (by kernel_rfl)) Try.fKeys) (by kernel_rfl)) Try.fHeard) Try.fEnter) Try.fLifted) Try.fMake) (by kernel_rfl)) (by kernel_rfl)) (by kernel_rfl)) (by kernel_rfl)
theorem fnExactFewest_holds : Rows.FnExactFewestSaid :=
  OpenClaim.holds_of_wide 4 Try.f4 rfl rfl rfl rfl rfl rfl rfl ⟨rfl, rfl, rfl, rfl, rfl⟩ rfl rfl rfl rfl rfl (by kernel_rfl) Try.func4 fnExactFewest_facts
    (of_decide_eq_true (by kernel_rfl)) (by unfold Func.isWrapper; first | (rw [if_pos (by decide +kernel)]; kernel_rfl) | (rw [if_neg (by decide +kernel)]; exact ⟨rfl, rfl⟩))
    (fun os started H enc _ => fnExactFewest_lifted os started H enc)
end Go.Proofs.Ytmefinakmgnbpaa
