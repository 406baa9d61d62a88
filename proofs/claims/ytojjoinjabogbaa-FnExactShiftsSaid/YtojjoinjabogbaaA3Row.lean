import Derived.Test.YtojjoinjabogbaaEngC
import Derived.Test.YtojjoinjabogbaaA3Tie
import Derived.Test.YtojjoinjabogbaaA3Fn
import Derived.Test.YtojjoinjabogbaaFacts
/- Proved here: laws.FnExactShifts returns true for every list of stows and every port, and leaves its arguments as they were; no conditions. -/
set_option linter.unusedSimpArgs false
set_option linter.deprecated false
set_option linter.unusedSectionVars false
set_option linter.unusedVariables false
set_option maxRecDepth 100000
open Go Go.Proofs
noncomputable section
namespace Go.Sm.A3
abbrev S : List Nat := [22, 149, 145, 9, 3, 4, 147]
theorem wf_149 (x : SStow) (h : ∀ d ∈ T.dget 149 x, WfD T d) : wfSStow x := by
  have h : ∀ d ∈ ([.str x.Box.Name, .int .i64 x.Box.Weight, .int .i64 x.Box.Class, .bool x.Box.Cold, .int .i64 x.Box.From, .int .i64 x.Box.To, .int .i64 x.Spot.Bay, .int .i64 x.Spot.Row, .int .i64 x.Spot.Tier] : List (D T.U)), WfD T d := h
  exact ⟨⟨(WfD.s (h _ (.head _))), (WfD.i (h _ (.tail _ (.head _)))), (WfD.i (h _ (.tail _ (.tail _ (.head _))))), trivial, (WfD.i (h _ (.tail _ (.tail _ (.tail _ (.tail _ (.head _))))))), (WfD.i (h _ (.tail _ (.tail _ (.tail _ (.tail _ (.tail _ (.head _))))))))⟩, ⟨(WfD.i (h _ (.tail _ (.tail _ (.tail _ (.tail _ (.tail _ (.tail _ (.head _))))))))), (WfD.i (h _ (.tail _ (.tail _ (.tail _ (.tail _ (.tail _ (.tail _ (.tail _ (.head _)))))))))), (WfD.i (h _ (.tail _ (.tail _ (.tail _ (.tail _ (.tail _ (.tail _ (.tail _ (.tail _ (.head _)))))))))))⟩⟩
theorem wf_22 (x : List SStow) (h : ∀ d ∈ T.dget 22 x, WfD T d) : (x.length ≤ 9223372036854775807 ∧ ∀ y ∈ x, wfSStow y) := by
  have h : ∀ d ∈ ([.arr 149 x] : List (D T.U)), WfD T d := h
  exact ⟨(WfD.a (h _ (.head _))).1, fun y hy => wf_149 y ((WfD.a (h _ (.head _))).2 y hy)⟩
theorem wf_3 (x : Int) (h : ∀ d ∈ T.dget 3 x, WfD T d) : rng (-9223372036854775808) 9223372036854775807 x := by
  have h : ∀ d ∈ ([.int .i64 x] : List (D T.U)), WfD T d := h
  exact (WfD.i (h _ (.head _)))
theorem rd_22 : RdT T S 22 := by
  have hm : ∀ ds, SameL (T.dget 22 (T.dflt 22)) ds → ∃ x, T.dset 22 ds = some x := by
    intro ds h
    obtain ⟨c0, r0, rfl, ⟨b0, rfl⟩, h⟩ := h
    cases h
    exact some_of (by kernel_rfl)
  exact .ofSlice (e := 149) (by kernel_rfl) hm rfl ⟨_, rfl⟩ (by decide)
theorem rd_149 : RdT T S 149 := by
  have hm : ∀ ds, SameL (T.dget 149 (T.dflt 149)) ds → ∃ x, T.dset 149 ds = some x := by
    intro ds h
    obtain ⟨c0, r0, rfl, ⟨b0, rfl⟩, h⟩ := h
    obtain ⟨c1, r1, rfl, ⟨b1, rfl⟩, h⟩ := h
    obtain ⟨c2, r2, rfl, ⟨b2, rfl⟩, h⟩ := h
    obtain ⟨c3, r3, rfl, ⟨b3, rfl⟩, h⟩ := h
    obtain ⟨c4, r4, rfl, ⟨b4, rfl⟩, h⟩ := h
    obtain ⟨c5, r5, rfl, ⟨b5, rfl⟩, h⟩ := h
    obtain ⟨c6, r6, rfl, ⟨b6, rfl⟩, h⟩ := h
    obtain ⟨c7, r7, rfl, ⟨b7, rfl⟩, h⟩ := h
    obtain ⟨c8, r8, rfl, ⟨b8, rfl⟩, h⟩ := h
    cases h
    exact some_of (by kernel_rfl)
  exact .ofStruct (fs := [(0, 145), (6, 147)]) (by kernel_rfl) hm (by kernel_rfl) (by kernel_rfl) (by kernel_rfl) (by decide)
theorem rd_145 : RdT T S 145 := by
  have hm : ∀ ds, SameL (T.dget 145 (T.dflt 145)) ds → ∃ x, T.dset 145 ds = some x := by
    intro ds h
    obtain ⟨c0, r0, rfl, ⟨b0, rfl⟩, h⟩ := h
    obtain ⟨c1, r1, rfl, ⟨b1, rfl⟩, h⟩ := h
    obtain ⟨c2, r2, rfl, ⟨b2, rfl⟩, h⟩ := h
    obtain ⟨c3, r3, rfl, ⟨b3, rfl⟩, h⟩ := h
    obtain ⟨c4, r4, rfl, ⟨b4, rfl⟩, h⟩ := h
    obtain ⟨c5, r5, rfl, ⟨b5, rfl⟩, h⟩ := h
    cases h
    exact some_of (by kernel_rfl)
  exact .ofStruct (fs := [(0, 9), (1, 3), (2, 3), (3, 4), (4, 3), (5, 3)]) (by kernel_rfl) hm (by kernel_rfl) (by kernel_rfl) (by kernel_rfl) (by decide)
theorem rd_9 : RdT T S 9 := by
  have hm : ∀ ds, SameL (T.dget 9 (T.dflt 9)) ds → ∃ x, T.dset 9 ds = some x := by
    intro ds h
    obtain ⟨c0, r0, rfl, ⟨b0, rfl⟩, h⟩ := h
    cases h
    exact some_of (by kernel_rfl)
  exact .ofStr (by kernel_rfl) hm rfl ⟨_, rfl⟩
theorem rd_3 : RdT T S 3 := by
  have hm : ∀ ds, SameL (T.dget 3 (T.dflt 3)) ds → ∃ x, T.dset 3 ds = some x := by
    intro ds h
    obtain ⟨c0, r0, rfl, ⟨b0, rfl⟩, h⟩ := h
    cases h
    exact some_of (by kernel_rfl)
  exact .ofInt (by kernel_rfl) hm rfl ⟨_, rfl⟩
theorem rd_4 : RdT T S 4 := by
  have hm : ∀ ds, SameL (T.dget 4 (T.dflt 4)) ds → ∃ x, T.dset 4 ds = some x := by
    intro ds h
    obtain ⟨c0, r0, rfl, ⟨b0, rfl⟩, h⟩ := h
    cases h
    exact some_of (by kernel_rfl)
  exact .ofBool (by kernel_rfl) hm rfl ⟨_, rfl⟩
theorem rd_147 : RdT T S 147 := by
  have hm : ∀ ds, SameL (T.dget 147 (T.dflt 147)) ds → ∃ x, T.dset 147 ds = some x := by
    intro ds h
    obtain ⟨c0, r0, rfl, ⟨b0, rfl⟩, h⟩ := h
    obtain ⟨c1, r1, rfl, ⟨b1, rfl⟩, h⟩ := h
    obtain ⟨c2, r2, rfl, ⟨b2, rfl⟩, h⟩ := h
    cases h
    exact some_of (by kernel_rfl)
  exact .ofStruct (fs := [(0, 3), (1, 3), (2, 3)]) (by kernel_rfl) hm (by kernel_rfl) (by kernel_rfl) (by kernel_rfl) (by decide)
theorem rds : ∀ t ∈ S, RdT T S t := List.forall_mem_cons.2 ⟨rd_22, List.forall_mem_cons.2 ⟨rd_149, List.forall_mem_cons.2 ⟨rd_145, List.forall_mem_cons.2 ⟨rd_9, List.forall_mem_cons.2 ⟨rd_3, List.forall_mem_cons.2 ⟨rd_4, List.forall_mem_cons.2 ⟨rd_147, fun _ h => nomatch h⟩⟩⟩⟩⟩⟩⟩
theorem law_call : ∀ ar, ArgsAre T Try.f3.params.toList ar → CallOk Try.prog T 3 ar (laws_FnExactShifts_enc true) := by
  intro ar h
  rw [Try.params3] at h
  obtain ⟨y0, r0, rfl, w0, y1, r1, rfl, w1, rfl⟩ := h
  obtain ⟨n, hn⟩ := laws_FnExactShifts_true y0 y1 (wf_22 y0 w0) (wf_3 y1 w1)
  exact call_of (phiE_nat _ _) (sem n 24) ok mixed Try.func3 (c := laws_FnExactShifts_code) (by kernel_rfl) (laws_FnExactShifts_lo n) (by kernel_rfl) (by kernel_rfl) (by kernel_rfl) laws_FnExactShifts_de ((laws_FnExactShifts_tie n y0 y1).trans hn)
end Go.Sm.A3
namespace Go.Proofs.Ytojjoinjabogbaa
open Go.ChangeShapes Go.WideShapes Go.ChangeAt Go.RowKit Go.Sm Go.Sm.A3
theorem fnExactShifts_lifted (os : Os) (started : os.Started) (H : Type) (enc : TypeId × Value → H) :
    ReturnsInHanded {} Try.checked os 3 .any (Rows.fnExactShiftsSpec.pre6 enc Try.prog Try.f3 Rows.fnExactShiftsRow.domain false) (Rows.fnExactShiftsSpec.post enc Try.prog Try.f3 false true false false) := by
  refine returnsInHanded_of_change (C := Try.checked) Try.own started (by kernel_rfl) Try.func3
    (ChangeSpec.witness6 (enc := enc) (C := Try.checked) false ⟨#[], #[.slice none 0 0, .int .i64 0], []⟩ 8 (by kernel_rfl) (by kernel_rfl) (by kernel_rfl) (by kernel_rfl)) ?_
  intro W base args ds gs before hval hW _ _
  exact row_of (P := Try.prog) (T := T) (s := Rows.fnExactShiftsSpec) (fn := Try.f3) (tb := 4) ok rds Try.laidOut (by rw [Try.params3]; decide)
    (by rw [Try.params3]; exact List.forall_mem_cons.2 ⟨⟨by kernel_rfl, of_decide_eq_true (by kernel_rfl)⟩, List.forall_mem_cons.2 ⟨⟨by kernel_rfl, of_decide_eq_true (by kernel_rfl)⟩, fun _ h => nomatch h⟩⟩) (by rw [Try.params3]; rfl) rfl (by rw [Try.params3]; intro ds h; match ds, h with | [d0, d1], _ => rfl) (by rfl) Try.underlying4 hval hW rfl law_call
theorem fnExactShifts_f1 : (Rows.fnExactShiftsRow.inPlace == Try.prog.inPlace 3) = true := by kernel_rfl
theorem fnExactShifts_f2 : (Rows.fnExactShiftsRow.unfollowed == Try.prog.unfollowed 3) = true := by kernel_rfl
theorem fnExactShifts_f3 : (Rows.fnExactShiftsRow.recurses == Try.prog.recurses 3) = true := by kernel_rfl
theorem fnExactShifts_f4 : (Rows.fnExactShiftsRow.named == Try.prog.varsNamed 3) = true := by kernel_rfl
theorem fnExactShifts_facts : joinedFacts Try.prog 3 Try.f3 Rows.fnExactShiftsSpec Rows.fnExactShiftsRow = true := by
  unfold joinedFacts
  exact and_mk (and_mk (and_mk (and_mk (and_mk (and_mk (and_mk (and_mk (and_mk (and_mk (and_mk (and_mk (and_mk (and_mk (and_mk (and_mk (and_mk (and_mk (and_mk (and_mk (and_mk (and_mk (and_mk (and_mk (and_mk (and_mk (and_mk (and_mk (and_mk (and_mk (and_mk
    (by kernel_rfl) Try.laidOut) Try.fRowed) (by kernel_rfl)) (by kernel_rfl)) (by kernel_rfl)) Try.fStops) (by kernel_rfl)) Try.fKnobs) fnExactShifts_f1) fnExactShifts_f2) fnExactShifts_f3) fnExactShifts_f4)
    (by kernel_rfl)) (by kernel_rfl)) (by kernel_rfl)) (by kernel_rfl)) (by kernel_rfl)) (by kernel_rfl)) (by kernel_rfl)) (by kernel_rfl)) (by kernel_rfl)) Try.fKeys) (by kernel_rfl)) Try.fHeard) Try.fEnter) Try.fLifted) Try.fMake) (by kernel_rfl)) (by kernel_rfl)) (by kernel_rfl)) (by kernel_rfl)
theorem fnExactShifts_holds : Rows.FnExactShiftsSaid :=
  OpenClaim.holds_of_wide 3 Try.f3 rfl rfl rfl rfl rfl rfl rfl ⟨rfl, rfl, rfl, rfl, rfl⟩ rfl rfl rfl rfl rfl (by kernel_rfl) Try.func3 fnExactShifts_facts
    (of_decide_eq_true (by kernel_rfl)) (by unfold Func.isWrapper; first | (rw [if_pos (by decide +kernel)]; kernel_rfl) | (rw [if_neg (by decide +kernel)]; exact ⟨rfl, rfl⟩))
    (fun os started H enc _ => fnExactShifts_lifted os started H enc)
end Go.Proofs.Ytojjoinjabogbaa
