import Derived.Test.YtikjficedlkjjaaEngD
import Derived.Test.YtikjficedlkjjaaC6Tie
import Derived.Test.YtikjficedlkjjaaC6Fn
import Derived.Test.YtikjficedlkjjaaFacts
/- AtPort: of all hatches, lists, ports and plans the written-out way and the built one let go and take on the same. -/
set_option linter.unusedSimpArgs false
set_option linter.deprecated false
set_option linter.unusedSectionVars false
set_option linter.unusedVariables false
set_option maxRecDepth 100000
open Go Go.Proofs
noncomputable section
namespace Go.Sm.C6
abbrev S : List Nat := [53, 138, 3, 54, 136, 133, 9, 4, 134]
theorem wf_138 (x : SHatch) (h : ∀ d ∈ T.dget 138 x, WfD T d) : wfSHatch x := by
  have h : ∀ d ∈ ([.int .i64 x.Rows, .int .i64 x.Tiers, .int .i64 x.Most, .int .i64 x.Plugs] : List (D T.U)), WfD T d := h
  exact ⟨(WfD.i (h _ (.head _))), (WfD.i (h _ (.tail _ (.head _)))), (WfD.i (h _ (.tail _ (.tail _ (.head _))))), (WfD.i (h _ (.tail _ (.tail _ (.tail _ (.head _))))))⟩
theorem wf_53 (x : List SHatch) (h : ∀ d ∈ T.dget 53 x, WfD T d) : (x.length ≤ 9223372036854775807 ∧ ∀ y ∈ x, wfSHatch y) := by
  have h : ∀ d ∈ ([.arr 138 x] : List (D T.U)), WfD T d := h
  exact ⟨(WfD.a (h _ (.head _))).1, fun y hy => wf_138 y ((WfD.a (h _ (.head _))).2 y hy)⟩
theorem wf_136 (x : SStow) (h : ∀ d ∈ T.dget 136 x, WfD T d) : wfSStow x := by
  have h : ∀ d ∈ ([.str x.Box.Name, .int .i64 x.Box.Weight, .int .i64 x.Box.Class, .bool x.Box.Cold, .int .i64 x.Box.From, .int .i64 x.Box.To, .int .i64 x.Spot.Bay, .int .i64 x.Spot.Row, .int .i64 x.Spot.Tier] : List (D T.U)), WfD T d := h
  exact ⟨⟨(WfD.s (h _ (.head _))), (WfD.i (h _ (.tail _ (.head _)))), (WfD.i (h _ (.tail _ (.tail _ (.head _))))), trivial, (WfD.i (h _ (.tail _ (.tail _ (.tail _ (.tail _ (.head _))))))), (WfD.i (h _ (.tail _ (.tail _ (.tail _ (.tail _ (.tail _ (.head _))))))))⟩, ⟨(WfD.i (h _ (.tail _ (.tail _ (.tail _ (.tail _ (.tail _ (.tail _ (.head _))))))))), (WfD.i (h _ (.tail _ (.tail _ (.tail _ (.tail _ (.tail _ (.tail _ (.tail _ (.head _)))))))))), (WfD.i (h _ (.tail _ (.tail _ (.tail _ (.tail _ (.tail _ (.tail _ (.tail _ (.tail _ (.head _)))))))))))⟩⟩
theorem wf_54 (x : List SStow) (h : ∀ d ∈ T.dget 54 x, WfD T d) : (x.length ≤ 9223372036854775807 ∧ ∀ y ∈ x, wfSStow y) := by
  have h : ∀ d ∈ ([.arr 136 x] : List (D T.U)), WfD T d := h
  exact ⟨(WfD.a (h _ (.head _))).1, fun y hy => wf_136 y ((WfD.a (h _ (.head _))).2 y hy)⟩
theorem wf_3 (x : Int) (h : ∀ d ∈ T.dget 3 x, WfD T d) : rng (-9223372036854775808) 9223372036854775807 x := by
  have h : ∀ d ∈ ([.int .i64 x] : List (D T.U)), WfD T d := h
  exact (WfD.i (h _ (.head _)))
theorem rd_53 : RdT T S 53 := by
  have hm : ∀ ds, SameL (T.dget 53 (T.dflt 53)) ds → ∃ x, T.dset 53 ds = some x := by
    intro ds h
    obtain ⟨c0, r0, rfl, ⟨b0, rfl⟩, h⟩ := h
    cases h
    exact some_of (by kernel_rfl)
  exact .ofSlice (e := 138) (by kernel_rfl) hm rfl ⟨_, rfl⟩ (by decide)
theorem rd_138 : RdT T S 138 := by
  have hm : ∀ ds, SameL (T.dget 138 (T.dflt 138)) ds → ∃ x, T.dset 138 ds = some x := by
    intro ds h
    obtain ⟨c0, r0, rfl, ⟨b0, rfl⟩, h⟩ := h
    obtain ⟨c1, r1, rfl, ⟨b1, rfl⟩, h⟩ := h
    obtain ⟨c2, r2, rfl, ⟨b2, rfl⟩, h⟩ := h
    obtain ⟨c3, r3, rfl, ⟨b3, rfl⟩, h⟩ := h
    cases h
    exact some_of (by kernel_rfl)
  exact .ofStruct (fs := [(0, 3), (1, 3), (2, 3), (3, 3)]) (by kernel_rfl) hm (by kernel_rfl) (by kernel_rfl) (by kernel_rfl) (by decide)
theorem rd_3 : RdT T S 3 := by
  have hm : ∀ ds, SameL (T.dget 3 (T.dflt 3)) ds → ∃ x, T.dset 3 ds = some x := by
    intro ds h
    obtain ⟨c0, r0, rfl, ⟨b0, rfl⟩, h⟩ := h
    cases h
    exact some_of (by kernel_rfl)
  exact .ofInt (by kernel_rfl) hm rfl ⟨_, rfl⟩
theorem rd_54 : RdT T S 54 := by
  have hm : ∀ ds, SameL (T.dget 54 (T.dflt 54)) ds → ∃ x, T.dset 54 ds = some x := by
    intro ds h
    obtain ⟨c0, r0, rfl, ⟨b0, rfl⟩, h⟩ := h
    cases h
    exact some_of (by kernel_rfl)
  exact .ofSlice (e := 136) (by kernel_rfl) hm rfl ⟨_, rfl⟩ (by decide)
theorem rd_136 : RdT T S 136 := by
  have hm : ∀ ds, SameL (T.dget 136 (T.dflt 136)) ds → ∃ x, T.dset 136 ds = some x := by
    intro ds h
    obtain ⟨c0, r0, rfl, ⟨b0, rfl⟩, h⟩ := h
    obtain ⟨c1, r1, rfl, ⟨b1, rfl⟩, h⟩ := h
    obtain ⟨c2, r2, rfl, ⟨b2, rfl⟩, h⟩ := h
    obtain ⟨c3, r3, rfl, ⟨b3, rfl⟩, h⟩ := h
    obtain ⟨c4, r4, rfl, ⟨b4, rfl⟩, h⟩ := h
    obtain ⟨c5, r5, rfl, ⟨b5, rfl⟩, h⟩ := h
    obtain ⟨c6, r6, rfl, ⟨b6, rfl⟩, h⟩ := h
    obtain ⟨c7, r7, rfl, ⟨b7, rfl⟩, h⟩ := h
    obtain ⟨c8, r8, rfl, ⟨b8, rfl⟩, h⟩ := h
    cases h
    exact some_of (by kernel_rfl)
  exact .ofStruct (fs := [(0, 133), (6, 134)]) (by kernel_rfl) hm (by kernel_rfl) (by kernel_rfl) (by kernel_rfl) (by decide)
theorem rd_133 : RdT T S 133 := by
  have hm : ∀ ds, SameL (T.dget 133 (T.dflt 133)) ds → ∃ x, T.dset 133 ds = some x := by
    intro ds h
    obtain ⟨c0, r0, rfl, ⟨b0, rfl⟩, h⟩ := h
    obtain ⟨c1, r1, rfl, ⟨b1, rfl⟩, h⟩ := h
    obtain ⟨c2, r2, rfl, ⟨b2, rfl⟩, h⟩ := h
    obtain ⟨c3, r3, rfl, ⟨b3, rfl⟩, h⟩ := h
    obtain ⟨c4, r4, rfl, ⟨b4, rfl⟩, h⟩ := h
    obtain ⟨c5, r5, rfl, ⟨b5, rfl⟩, h⟩ := h
    cases h
    exact some_of (by kernel_rfl)
  exact .ofStruct (fs := [(0, 9), (1, 3), (2, 3), (3, 4), (4, 3), (5, 3)]) (by kernel_rfl) hm (by kernel_rfl) (by kernel_rfl) (by kernel_rfl) (by decide)
theorem rd_9 : RdT T S 9 := by
  have hm : ∀ ds, SameL (T.dget 9 (T.dflt 9)) ds → ∃ x, T.dset 9 ds = some x := by
    intro ds h
    obtain ⟨c0, r0, rfl, ⟨b0, rfl⟩, h⟩ := h
    cases h
    exact some_of (by kernel_rfl)
  exact .ofStr (by kernel_rfl) hm rfl ⟨_, rfl⟩
theorem rd_4 : RdT T S 4 := by
  have hm : ∀ ds, SameL (T.dget 4 (T.dflt 4)) ds → ∃ x, T.dset 4 ds = some x := by
    intro ds h
    obtain ⟨c0, r0, rfl, ⟨b0, rfl⟩, h⟩ := h
    cases h
    exact some_of (by kernel_rfl)
  exact .ofBool (by kernel_rfl) hm rfl ⟨_, rfl⟩
theorem rd_134 : RdT T S 134 := by
  have hm : ∀ ds, SameL (T.dget 134 (T.dflt 134)) ds → ∃ x, T.dset 134 ds = some x := by
    intro ds h
    obtain ⟨c0, r0, rfl, ⟨b0, rfl⟩, h⟩ := h
    obtain ⟨c1, r1, rfl, ⟨b1, rfl⟩, h⟩ := h
    obtain ⟨c2, r2, rfl, ⟨b2, rfl⟩, h⟩ := h
    cases h
    exact some_of (by kernel_rfl)
  exact .ofStruct (fs := [(0, 3), (1, 3), (2, 3)]) (by kernel_rfl) hm (by kernel_rfl) (by kernel_rfl) (by kernel_rfl) (by decide)
theorem rds : ∀ t ∈ S, RdT T S t := List.forall_mem_cons.2 ⟨rd_53, List.forall_mem_cons.2 ⟨rd_138, List.forall_mem_cons.2 ⟨rd_3, List.forall_mem_cons.2 ⟨rd_54, List.forall_mem_cons.2 ⟨rd_136, List.forall_mem_cons.2 ⟨rd_133, List.forall_mem_cons.2 ⟨rd_9, List.forall_mem_cons.2 ⟨rd_4, List.forall_mem_cons.2 ⟨rd_134, fun _ h => nomatch h⟩⟩⟩⟩⟩⟩⟩⟩⟩
theorem law_call : ∀ ar, ArgsAre T Try.f6.params.toList ar → CallOk Try.prog T 6 ar (laws_FnExactAtPort_enc true) := by
  intro ar h
  rw [Try.params6] at h
  obtain ⟨y0, r0, rfl, w0, y1, r1, rfl, w1, y2, r2, rfl, w2, y3, r3, rfl, w3, rfl⟩ := h
  obtain ⟨n, hn⟩ := laws_FnExactAtPort_true y0 y1 y2 y3 (wf_53 y0 w0) (wf_54 y1 w1) (wf_3 y2 w2) (wf_54 y3 w3)
  exact call_of (phiE_nat _ _) (sem n 81) ok mixed Try.func6 (c := laws_FnExactAtPort_code) (by kernel_rfl) (laws_FnExactAtPort_lo n) (by kernel_rfl) (by kernel_rfl) (by kernel_rfl) laws_FnExactAtPort_de ((laws_FnExactAtPort_tie n y0 y1 y2 y3).trans hn)
end Go.Sm.C6
namespace Go.Proofs.Ytikjficedlkjjaa
open Go.ChangeShapes Go.WideShapes Go.ChangeAt Go.RowKit Go.Sm Go.Sm.C6
theorem fnExactAtPort_lifted (os : Os) (started : os.Started) (H : Type) (enc : TypeId × Value → H) :
    ReturnsInHanded {} Try.checked os 6 .any (Rows.fnExactAtPortSpec.pre6 enc Try.prog Try.f6 Rows.fnExactAtPortRow.domain false) (Rows.fnExactAtPortSpec.post enc Try.prog Try.f6 false true false false) := by
  refine returnsInHanded_of_change (C := Try.checked) Try.own started (by kernel_rfl) Try.func6
    (ChangeSpec.witness6 (enc := enc) (C := Try.checked) false ⟨#[], #[.slice none 0 0, .slice none 0 0, .int .i64 0, .slice none 0 0], []⟩ 8 (by kernel_rfl) (by kernel_rfl) (by kernel_rfl) (by kernel_rfl)) ?_
  intro W base args ds gs before hval hW _ _
  exact row_of (P := Try.prog) (T := T) (s := Rows.fnExactAtPortSpec) (fn := Try.f6) (tb := 4) ok rds Try.laidOut (by rw [Try.params6]; decide)
    (by rw [Try.params6]; exact List.forall_mem_cons.2 ⟨⟨by kernel_rfl, of_decide_eq_true (by kernel_rfl)⟩, List.forall_mem_cons.2 ⟨⟨by kernel_rfl, of_decide_eq_true (by kernel_rfl)⟩, List.forall_mem_cons.2 ⟨⟨by kernel_rfl, of_decide_eq_true (by kernel_rfl)⟩, List.forall_mem_cons.2 ⟨⟨by kernel_rfl, of_decide_eq_true (by kernel_rfl)⟩, fun _ h => nomatch h⟩⟩⟩⟩) (by rw [Try.params6]; rfl) rfl (by rw [Try.params6]; intro ds h; match ds, h with | [d0, d1, d2, d3], _ => rfl) (by rfl) Try.underlying4 hval hW rfl law_call
theorem fnExactAtPort_f1 : (Rows.fnExactAtPortRow.inPlace == Try.prog.inPlace 6) = true := by kernel_rfl
theorem fnExactAtPort_f2 : (Rows.fnExactAtPortRow.unfollowed == Try.prog.unfollowed 6) = true := by kernel_rfl
theorem fnExactAtPort_f3 : (Rows.fnExactAtPortRow.recurses == Try.prog.recurses 6) = true := by kernel_rfl
theorem fnExactAtPort_f4 : (Rows.fnExactAtPortRow.named == Try.prog.varsNamed 6) = true := by kernel_rfl
theorem fnExactAtPort_facts : joinedFacts Try.prog 6 Try.f6 Rows.fnExactAtPortSpec Rows.fnExactAtPortRow = true := by
  unfold joinedFacts
  exact and_mk (and_mk (and_mk (and_mk (and_mk (and_mk (and_mk (and_mk (and_mk (and_mk (and_mk (and_mk (and_mk (and_mk (and_mk (and_mk (and_mk (and_mk (and_mk (and_mk (and_mk (and_mk (and_mk (and_mk (and_mk (and_mk (and_mk (and_mk (and_mk (and_mk (and_mk
    (by kernel_rfl) Try.laidOut) Try.fRowed) (by kernel_rfl)) (by kernel_rfl)) (by kernel_rfl)) Try.fStops) (by kernel_rfl)) Try.fKnobs) fnExactAtPort_f1) fnExactAtPort_f2) fnExactAtPort_f3) fnExactAtPort_f4)
    (by kernel_rfl)) (by kernel_rfl)) (by kernel_rfl)) (by kernel_rfl)) (by kernel_rfl)) (by kernel_rfl)) (by kernel_rfl)) (by kernel_rfl)) (by kernel_rfl)) Try.fKeys) (by kernel_rfl)) Try.fHeard) Try.fEnter) Try.fLifted) Try.fMake) (by kernel_rfl)) (by kernel_rfl)) (by kernel_rfl)) (by kernel_rfl)
theorem fnExactAtPort_holds : Rows.FnExactAtPortSaid :=
  OpenClaim.holds_of_wide 6 Try.f6 rfl rfl rfl rfl rfl rfl rfl ⟨rfl, rfl, rfl, rfl, rfl⟩ rfl rfl rfl rfl rfl (by kernel_rfl) Try.func6 fnExactAtPort_facts
    (of_decide_eq_true (by kernel_rfl)) (by unfold Func.isWrapper; first | (rw [if_pos (by decide +kernel)]; kernel_rfl) | (rw [if_neg (by decide +kernel)]; exact ⟨rfl, rfl⟩))
    (fun os started H enc _ => fnExactAtPort_lifted os started H enc)
end Go.Proofs.Ytikjficedlkjjaa
