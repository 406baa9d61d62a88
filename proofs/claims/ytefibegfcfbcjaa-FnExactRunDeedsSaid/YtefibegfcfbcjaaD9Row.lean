import Derived.Test.YtefibegfcfbcjaaEngD
import Derived.Test.YtefibegfcfbcjaaD9Tie
import Derived.Test.YtefibegfcfbcjaaD9Fn
import Derived.Test.YtefibegfcfbcjaaFacts
/- RunDeeds: a run of deeds by the written-out way and by the built one comes to the same, for every house and all deeds. -/
set_option linter.unusedSimpArgs false
set_option linter.deprecated false
set_option linter.unusedSectionVars false
set_option linter.unusedVariables false
set_option maxRecDepth 100000
open Go Go.Proofs
noncomputable section
namespace Go.Sm.D9
abbrev S : List Nat := [85, 82, 239, 3, 83, 241, 101, 87]
theorem wf_239 (x : SLot) (h : ∀ d ∈ T.dget 239 x, WfD T d) : wfSLot x := by
  have h : ∀ d ∈ ([.int .i64 x.Id, .int .i64 x.Owner, .int .i64 x.Many, .int .i64 x.Value, .int .i64 x.Rate, .int .i64 x.State, .int .i64 x.Bond] : List (D T.U)), WfD T d := h
  exact ⟨(WfD.i (h _ (.head _))), (WfD.i (h _ (.tail _ (.head _)))), (WfD.i (h _ (.tail _ (.tail _ (.head _))))), (WfD.i (h _ (.tail _ (.tail _ (.tail _ (.head _)))))), (WfD.i (h _ (.tail _ (.tail _ (.tail _ (.tail _ (.head _))))))), (WfD.i (h _ (.tail _ (.tail _ (.tail _ (.tail _ (.tail _ (.head _)))))))), (WfD.i (h _ (.tail _ (.tail _ (.tail _ (.tail _ (.tail _ (.tail _ (.head _)))))))))⟩
theorem wf_241 (x : STrader) (h : ∀ d ∈ T.dget 241 x, WfD T d) : wfSTrader x := by
  have h : ∀ d ∈ ([.int .i64 x.Money, .int .i64 x.Bond, .int .i64 x.Bound] : List (D T.U)), WfD T d := h
  exact ⟨(WfD.i (h _ (.head _))), (WfD.i (h _ (.tail _ (.head _)))), (WfD.i (h _ (.tail _ (.tail _ (.head _)))))⟩
theorem wf_85 (x : SHouse) (h : ∀ d ∈ T.dget 85 x, WfD T d) : wfSHouse x := by
  have h : ∀ d ∈ ([.arr 239 x.Lots, .arr 241 x.Traders, .int .i64 x.Taken] : List (D T.U)), WfD T d := h
  exact ⟨⟨(WfD.a (h _ (.head _))).1, fun y hy => wf_239 y ((WfD.a (h _ (.head _))).2 y hy)⟩, ⟨(WfD.a (h _ (.tail _ (.head _)))).1, fun y hy => wf_241 y ((WfD.a (h _ (.tail _ (.head _)))).2 y hy)⟩, (WfD.i (h _ (.tail _ (.tail _ (.head _)))))⟩
theorem wf_87 (x : SDeed) (h : ∀ d ∈ T.dget 87 x, WfD T d) : wfSDeed x := by
  have h : ∀ d ∈ ([.int .i64 x.Kind, .int .i64 x.Id, .int .i64 x.Owner, .int .i64 x.Many, .int .i64 x.Value, .int .i64 x.Rate, .int .i64 x.New] : List (D T.U)), WfD T d := h
  exact ⟨(WfD.i (h _ (.head _))), (WfD.i (h _ (.tail _ (.head _)))), (WfD.i (h _ (.tail _ (.tail _ (.head _))))), (WfD.i (h _ (.tail _ (.tail _ (.tail _ (.head _)))))), (WfD.i (h _ (.tail _ (.tail _ (.tail _ (.tail _ (.head _))))))), (WfD.i (h _ (.tail _ (.tail _ (.tail _ (.tail _ (.tail _ (.head _)))))))), (WfD.i (h _ (.tail _ (.tail _ (.tail _ (.tail _ (.tail _ (.tail _ (.head _)))))))))⟩
theorem wf_101 (x : List SDeed) (h : ∀ d ∈ T.dget 101 x, WfD T d) : (x.length ≤ 9223372036854775807 ∧ ∀ y ∈ x, wfSDeed y) := by
  have h : ∀ d ∈ ([.arr 87 x] : List (D T.U)), WfD T d := h
  exact ⟨(WfD.a (h _ (.head _))).1, fun y hy => wf_87 y ((WfD.a (h _ (.head _))).2 y hy)⟩
theorem rd_85 : RdT T S 85 := by
  have hm : ∀ ds, SameL (T.dget 85 (T.dflt 85)) ds → ∃ x, T.dset 85 ds = some x := by
    intro ds h
    obtain ⟨c0, r0, rfl, ⟨b0, rfl⟩, h⟩ := h
    obtain ⟨c1, r1, rfl, ⟨b1, rfl⟩, h⟩ := h
    obtain ⟨c2, r2, rfl, ⟨b2, rfl⟩, h⟩ := h
    cases h
    exact some_of (by kernel_rfl)
  exact .ofStruct (fs := [(0, 82), (1, 83), (2, 3)]) (by kernel_rfl) hm (by kernel_rfl) (by kernel_rfl) (by kernel_rfl) (by decide)
theorem rd_82 : RdT T S 82 := by
  have hm : ∀ ds, SameL (T.dget 82 (T.dflt 82)) ds → ∃ x, T.dset 82 ds = some x := by
    intro ds h
    obtain ⟨c0, r0, rfl, ⟨b0, rfl⟩, h⟩ := h
    cases h
    exact some_of (by kernel_rfl)
  exact .ofSlice (e := 239) (by kernel_rfl) hm rfl ⟨_, rfl⟩ (by decide)
theorem rd_239 : RdT T S 239 := by
  have hm : ∀ ds, SameL (T.dget 239 (T.dflt 239)) ds → ∃ x, T.dset 239 ds = some x := by
    intro ds h
    obtain ⟨c0, r0, rfl, ⟨b0, rfl⟩, h⟩ := h
    obtain ⟨c1, r1, rfl, ⟨b1, rfl⟩, h⟩ := h
    obtain ⟨c2, r2, rfl, ⟨b2, rfl⟩, h⟩ := h
    obtain ⟨c3, r3, rfl, ⟨b3, rfl⟩, h⟩ := h
    obtain ⟨c4, r4, rfl, ⟨b4, rfl⟩, h⟩ := h
    obtain ⟨c5, r5, rfl, ⟨b5, rfl⟩, h⟩ := h
    obtain ⟨c6, r6, rfl, ⟨b6, rfl⟩, h⟩ := h
    cases h
    exact some_of (by kernel_rfl)
  exact .ofStruct (fs := [(0, 3), (1, 3), (2, 3), (3, 3), (4, 3), (5, 3), (6, 3)]) (by kernel_rfl) hm (by kernel_rfl) (by kernel_rfl) (by kernel_rfl) (by decide)
theorem rd_3 : RdT T S 3 := by
  have hm : ∀ ds, SameL (T.dget 3 (T.dflt 3)) ds → ∃ x, T.dset 3 ds = some x := by
    intro ds h
    obtain ⟨c0, r0, rfl, ⟨b0, rfl⟩, h⟩ := h
    cases h
    exact some_of (by kernel_rfl)
  exact .ofInt (by kernel_rfl) hm rfl ⟨_, rfl⟩
theorem rd_83 : RdT T S 83 := by
  have hm : ∀ ds, SameL (T.dget 83 (T.dflt 83)) ds → ∃ x, T.dset 83 ds = some x := by
    intro ds h
    obtain ⟨c0, r0, rfl, ⟨b0, rfl⟩, h⟩ := h
    cases h
    exact some_of (by kernel_rfl)
  exact .ofSlice (e := 241) (by kernel_rfl) hm rfl ⟨_, rfl⟩ (by decide)
theorem rd_241 : RdT T S 241 := by
  have hm : ∀ ds, SameL (T.dget 241 (T.dflt 241)) ds → ∃ x, T.dset 241 ds = some x := by
    intro ds h
    obtain ⟨c0, r0, rfl, ⟨b0, rfl⟩, h⟩ := h
    obtain ⟨c1, r1, rfl, ⟨b1, rfl⟩, h⟩ := h
    obtain ⟨c2, r2, rfl, ⟨b2, rfl⟩, h⟩ := h
    cases h
    exact some_of (by kernel_rfl)
  exact .ofStruct (fs := [(0, 3), (1, 3), (2, 3)]) (by kernel_rfl) hm (by kernel_rfl) (by kernel_rfl) (by kernel_rfl) (by decide)
theorem rd_101 : RdT T S 101 := by
  have hm : ∀ ds, SameL (T.dget 101 (T.dflt 101)) ds → ∃ x, T.dset 101 ds = some x := by
    intro ds h
    obtain ⟨c0, r0, rfl, ⟨b0, rfl⟩, h⟩ := h
    cases h
    exact some_of (by kernel_rfl)
  exact .ofSlice (e := 87) (by kernel_rfl) hm rfl ⟨_, rfl⟩ (by decide)
theorem rd_87 : RdT T S 87 := by
  have hm : ∀ ds, SameL (T.dget 87 (T.dflt 87)) ds → ∃ x, T.dset 87 ds = some x := by
    intro ds h
    obtain ⟨c0, r0, rfl, ⟨b0, rfl⟩, h⟩ := h
    obtain ⟨c1, r1, rfl, ⟨b1, rfl⟩, h⟩ := h
    obtain ⟨c2, r2, rfl, ⟨b2, rfl⟩, h⟩ := h
    obtain ⟨c3, r3, rfl, ⟨b3, rfl⟩, h⟩ := h
    obtain ⟨c4, r4, rfl, ⟨b4, rfl⟩, h⟩ := h
    obtain ⟨c5, r5, rfl, ⟨b5, rfl⟩, h⟩ := h
    obtain ⟨c6, r6, rfl, ⟨b6, rfl⟩, h⟩ := h
    cases h
    exact some_of (by kernel_rfl)
  exact .ofStruct (fs := [(0, 3), (1, 3), (2, 3), (3, 3), (4, 3), (5, 3), (6, 3)]) (by kernel_rfl) hm (by kernel_rfl) (by kernel_rfl) (by kernel_rfl) (by decide)
theorem rds : ∀ t ∈ S, RdT T S t := List.forall_mem_cons.2 ⟨rd_85, List.forall_mem_cons.2 ⟨rd_82, List.forall_mem_cons.2 ⟨rd_239, List.forall_mem_cons.2 ⟨rd_3, List.forall_mem_cons.2 ⟨rd_83, List.forall_mem_cons.2 ⟨rd_241, List.forall_mem_cons.2 ⟨rd_101, List.forall_mem_cons.2 ⟨rd_87, fun _ h => nomatch h⟩⟩⟩⟩⟩⟩⟩⟩
theorem law_call : ∀ ar, ArgsAre T Try.f9.params.toList ar → CallOk Try.prog T 9 ar (laws_FnExactRunDeeds_enc true) := by
  intro ar h
  rw [Try.params9] at h
  obtain ⟨y0, r0, rfl, w0, y1, r1, rfl, w1, rfl⟩ := h
  obtain ⟨n, hn⟩ := laws_FnExactRunDeeds_true y0 y1 (wf_85 y0 w0) (wf_101 y1 w1)
  exact call_of (phiE_nat _ _) (sem n 57) ok mixed Try.func9 (c := laws_FnExactRunDeeds_code) (by kernel_rfl) (laws_FnExactRunDeeds_lo n) (by kernel_rfl) (by kernel_rfl) (by kernel_rfl) laws_FnExactRunDeeds_de ((laws_FnExactRunDeeds_tie n y0 y1).trans hn)
end Go.Sm.D9
namespace Go.Proofs.Ytefibegfcfbcjaa
open Go.ChangeShapes Go.WideShapes Go.ChangeAt Go.RowKit Go.Sm Go.Sm.D9
theorem fnExactRunDeeds_lifted (os : Os) (started : os.Started) (H : Type) (enc : TypeId × Value → H) :
    ReturnsInHanded {} Try.checked os 9 .any (Rows.fnExactRunDeedsSpec.pre6 enc Try.prog Try.f9 Rows.fnExactRunDeedsRow.domain false) (Rows.fnExactRunDeedsSpec.post enc Try.prog Try.f9 false true false false) := by
  refine returnsInHanded_of_change (C := Try.checked) Try.own started (by kernel_rfl) Try.func9
    (ChangeSpec.witness6 (enc := enc) (C := Try.checked) false ⟨#[], #[.agg #[.slice none 0 0, .slice none 0 0, .int .i64 0], .slice none 0 0], []⟩ 8 (by kernel_rfl) (by kernel_rfl) (by kernel_rfl) (by kernel_rfl)) ?_
  intro W base args ds gs before hval hW _ _
  exact row_of (P := Try.prog) (T := T) (s := Rows.fnExactRunDeedsSpec) (fn := Try.f9) (tb := 4) ok rds Try.laidOut (by rw [Try.params9]; decide)
    (by rw [Try.params9]; exact List.forall_mem_cons.2 ⟨⟨by kernel_rfl, of_decide_eq_true (by kernel_rfl)⟩, List.forall_mem_cons.2 ⟨⟨by kernel_rfl, of_decide_eq_true (by kernel_rfl)⟩, fun _ h => nomatch h⟩⟩) (by rw [Try.params9]; rfl) rfl (by rw [Try.params9]; intro ds h; match ds, h with | [d0, d1], _ => rfl) (by rfl) Try.underlying4 hval hW rfl law_call
theorem fnExactRunDeeds_f1 : (Rows.fnExactRunDeedsRow.inPlace == Try.prog.inPlace 9) = true := by kernel_rfl
theorem fnExactRunDeeds_f2 : (Rows.fnExactRunDeedsRow.unfollowed == Try.prog.unfollowed 9) = true := by kernel_rfl
theorem fnExactRunDeeds_f3 : (Rows.fnExactRunDeedsRow.recurses == Try.prog.recurses 9) = true := by kernel_rfl
theorem fnExactRunDeeds_f4 : (Rows.fnExactRunDeedsRow.named == Try.prog.varsNamed 9) = true := by kernel_rfl
theorem fnExactRunDeeds_facts : joinedFacts Try.prog 9 Try.f9 Rows.fnExactRunDeedsSpec Rows.fnExactRunDeedsRow = true := by
  unfold joinedFacts
  exact and_mk (and_mk (and_mk (and_mk (and_mk (and_mk (and_mk (and_mk (and_mk (and_mk (and_mk (and_mk (and_mk (and_mk (and_mk (and_mk (and_mk (and_mk (and_mk (and_mk (and_mk (and_mk (and_mk (and_mk (and_mk (and_mk (and_mk (and_mk (and_mk (and_mk (and_mk
    (by kernel_rfl) Try.laidOut) Try.fRowed) (by kernel_rfl)) (by kernel_rfl)) (by kernel_rfl)) Try.fStops) (by kernel_rfl)) Try.fKnobs) fnExactRunDeeds_f1) fnExactRunDeeds_f2) fnExactRunDeeds_f3) fnExactRunDeeds_f4)
    (by kernel_rfl)) (by kernel_rfl)) (by kernel_rfl)) (by kernel_rfl)) (by kernel_rfl)) (by kernel_rfl)) (by kernel_rfl)) (by kernel_rfl)) (by kernel_rfl)) Try.fKeys) (by kernel_rfl)) Try.fHeard) Try.fEnter) Try.fLifted) Try.fMake) (by kernel_rfl)) (by kernel_rfl)) (by kernel_rfl)) (by kernel_rfl)
theorem fnExactRunDeeds_holds : Rows.FnExactRunDeedsSaid :=
  OpenClaim.holds_of_wide 9 Try.f9 rfl rfl rfl rfl rfl rfl rfl ⟨rfl, rfl, rfl, rfl, rfl⟩ rfl rfl rfl rfl rfl (by kernel_rfl) Try.func9 fnExactRunDeeds_facts
    (of_decide_eq_true (by kernel_rfl)) (by unfold Func.isWrapper; first | (rw [if_pos (by decide +kernel)]; kernel_rfl) | (rw [if_neg (by decide +kernel)]; exact ⟨rfl, rfl⟩))
    (fun os started H enc _ => fnExactRunDeeds_lifted os started H enc)
end Go.Proofs.Ytefibegfcfbcjaa
