import Derived.Test.YtefibegfcfbcjaaEngD
import Derived.Test.YtefibegfcfbcjaaD13Tie
import Derived.Test.YtefibegfcfbcjaaD13Fn
import Derived.Test.YtefibegfcfbcjaaFacts
/- PortOk: the written-out check and the built one answer alike for every port. -/
set_option linter.unusedSimpArgs false
set_option linter.deprecated false
set_option linter.unusedSectionVars false
set_option linter.unusedVariables false
set_option maxRecDepth 100000
open Go Go.Proofs
noncomputable section
namespace Go.Sm.D13
abbrev S : List Nat := [136, 3, 129, 213, 37, 35, 23, 25, 22, 215, 9, 77, 85, 82, 239, 83, 241]
theorem wf_213 (x : SCall) (h : ∀ d ∈ T.dget 213 x, WfD T d) : wfSCall x := by
  have h : ∀ d ∈ ([.int .i64 x.Id, .int .i64 x.Long, .int .i64 x.From, .int .i64 x.To, .int .i64 x.At] : List (D T.U)), WfD T d := h
  exact ⟨(WfD.i (h _ (.head _))), (WfD.i (h _ (.tail _ (.head _)))), (WfD.i (h _ (.tail _ (.tail _ (.head _))))), (WfD.i (h _ (.tail _ (.tail _ (.tail _ (.head _)))))), (WfD.i (h _ (.tail _ (.tail _ (.tail _ (.tail _ (.head _)))))))⟩
theorem wf_3 (x : Int) (h : ∀ d ∈ T.dget 3 x, WfD T d) : rng (-9223372036854775808) 9223372036854775807 x := by
  have h : ∀ d ∈ ([.int .i64 x] : List (D T.U)), WfD T d := h
  exact (WfD.i (h _ (.head _)))
theorem wf_23 (x : List Int) (h : ∀ d ∈ T.dget 23 x, WfD T d) : (x.length ≤ 9223372036854775807 ∧ ∀ y ∈ x, rng (-9223372036854775808) 9223372036854775807 y) := by
  have h : ∀ d ∈ ([.arr 3 x] : List (D T.U)), WfD T d := h
  exact ⟨(WfD.a (h _ (.head _))).1, fun y hy => wf_3 y ((WfD.a (h _ (.head _))).2 y hy)⟩
theorem wf_9 (x : ByteArray) (h : ∀ d ∈ T.dget 9 x, WfD T d) : x.size ≤ 9223372036854775807 := by
  have h : ∀ d ∈ ([.str x] : List (D T.U)), WfD T d := h
  exact (WfD.s (h _ (.head _)))
theorem wf_215 (x : SBill) (h : ∀ d ∈ T.dget 215 x, WfD T d) : wfSBill x := by
  have h : ∀ d ∈ ([.int .i64 x.Id, .str x.Shipper, .str x.Order, .int .i64 x.Many, .arr 9 x.Held] : List (D T.U)), WfD T d := h
  exact ⟨(WfD.i (h _ (.head _))), (WfD.s (h _ (.tail _ (.head _)))), (WfD.s (h _ (.tail _ (.tail _ (.head _))))), (WfD.i (h _ (.tail _ (.tail _ (.tail _ (.head _)))))), ⟨(WfD.a (h _ (.tail _ (.tail _ (.tail _ (.tail _ (.head _))))))).1, fun y hy => wf_9 y ((WfD.a (h _ (.tail _ (.tail _ (.tail _ (.tail _ (.head _))))))).2 y hy)⟩⟩
theorem wf_239 (x : SLot) (h : ∀ d ∈ T.dget 239 x, WfD T d) : wfSLot x := by
  have h : ∀ d ∈ ([.int .i64 x.Id, .int .i64 x.Owner, .int .i64 x.Many, .int .i64 x.Value, .int .i64 x.Rate, .int .i64 x.State, .int .i64 x.Bond] : List (D T.U)), WfD T d := h
  exact ⟨(WfD.i (h _ (.head _))), (WfD.i (h _ (.tail _ (.head _)))), (WfD.i (h _ (.tail _ (.tail _ (.head _))))), (WfD.i (h _ (.tail _ (.tail _ (.tail _ (.head _)))))), (WfD.i (h _ (.tail _ (.tail _ (.tail _ (.tail _ (.head _))))))), (WfD.i (h _ (.tail _ (.tail _ (.tail _ (.tail _ (.tail _ (.head _)))))))), (WfD.i (h _ (.tail _ (.tail _ (.tail _ (.tail _ (.tail _ (.tail _ (.head _)))))))))⟩
theorem wf_241 (x : STrader) (h : ∀ d ∈ T.dget 241 x, WfD T d) : wfSTrader x := by
  have h : ∀ d ∈ ([.int .i64 x.Money, .int .i64 x.Bond, .int .i64 x.Bound] : List (D T.U)), WfD T d := h
  exact ⟨(WfD.i (h _ (.head _))), (WfD.i (h _ (.tail _ (.head _)))), (WfD.i (h _ (.tail _ (.tail _ (.head _)))))⟩
theorem wf_136 (x : SPort) (h : ∀ d ∈ T.dget 136 x, WfD T d) : wfSPort x := by
  have h : ∀ d ∈ ([.int .i64 x.Long, .arr 213 x.Calls, .int .i64 x.Yard.High, .arr 23 x.Yard.Stacks, .arr 215 x.Book.Bills, .arr 3 x.Book.Freed, .arr 239 x.House.Lots, .arr 241 x.House.Traders, .int .i64 x.House.Taken] : List (D T.U)), WfD T d := h
  exact ⟨(WfD.i (h _ (.head _))), ⟨(WfD.a (h _ (.tail _ (.head _)))).1, fun y hy => wf_213 y ((WfD.a (h _ (.tail _ (.head _)))).2 y hy)⟩, ⟨(WfD.i (h _ (.tail _ (.tail _ (.head _))))), ⟨(WfD.a (h _ (.tail _ (.tail _ (.tail _ (.head _)))))).1, fun y hy => wf_23 y ((WfD.a (h _ (.tail _ (.tail _ (.tail _ (.head _)))))).2 y hy)⟩⟩, ⟨⟨(WfD.a (h _ (.tail _ (.tail _ (.tail _ (.tail _ (.head _))))))).1, fun y hy => wf_215 y ((WfD.a (h _ (.tail _ (.tail _ (.tail _ (.tail _ (.head _))))))).2 y hy)⟩, ⟨(WfD.a (h _ (.tail _ (.tail _ (.tail _ (.tail _ (.tail _ (.head _)))))))).1, fun y hy => wf_3 y ((WfD.a (h _ (.tail _ (.tail _ (.tail _ (.tail _ (.tail _ (.head _)))))))).2 y hy)⟩⟩, ⟨⟨(WfD.a (h _ (.tail _ (.tail _ (.tail _ (.tail _ (.tail _ (.tail _ (.head _))))))))).1, fun y hy => wf_239 y ((WfD.a (h _ (.tail _ (.tail _ (.tail _ (.tail _ (.tail _ (.tail _ (.head _))))))))).2 y hy)⟩, ⟨(WfD.a (h _ (.tail _ (.tail _ (.tail _ (.tail _ (.tail _ (.tail _ (.tail _ (.head _)))))))))).1, fun y hy => wf_241 y ((WfD.a (h _ (.tail _ (.tail _ (.tail _ (.tail _ (.tail _ (.tail _ (.tail _ (.head _)))))))))).2 y hy)⟩, (WfD.i (h _ (.tail _ (.tail _ (.tail _ (.tail _ (.tail _ (.tail _ (.tail _ (.tail _ (.head _)))))))))))⟩⟩
theorem rd_136 : RdT T S 136 := by
  have hm : ∀ ds, SameL (T.dget 136 (T.dflt 136)) ds → ∃ x, T.dset 136 ds = some x := by
    intro ds h
    obtain ⟨c0, r0, rfl, ⟨b0, rfl⟩, h⟩ := h
    obtain ⟨c1, r1, rfl, ⟨b1, rfl⟩, h⟩ := h
    obtain ⟨c2, r2, rfl, ⟨b2, rfl⟩, h⟩ := h
    obtain ⟨c3, r3, rfl, ⟨b3, rfl⟩, h⟩ := h
    obtain ⟨c4, r4, rfl, ⟨b4, rfl⟩, h⟩ := h
    obtain ⟨c5, r5, rfl, ⟨b5, rfl⟩, h⟩ := h
    obtain ⟨c6, r6, rfl, ⟨b6, rfl⟩, h⟩ := h
    obtain ⟨c7, r7, rfl, ⟨b7, rfl⟩, h⟩ := h
    obtain ⟨c8, r8, rfl, ⟨b8, rfl⟩, h⟩ := h
    cases h
    exact some_of (by kernel_rfl)
  exact .ofStruct (fs := [(0, 3), (1, 129), (2, 37), (4, 25), (6, 85)]) (by kernel_rfl) hm (by kernel_rfl) (by kernel_rfl) (by kernel_rfl) (by decide)
theorem rd_3 : RdT T S 3 := by
  have hm : ∀ ds, SameL (T.dget 3 (T.dflt 3)) ds → ∃ x, T.dset 3 ds = some x := by
    intro ds h
    obtain ⟨c0, r0, rfl, ⟨b0, rfl⟩, h⟩ := h
    cases h
    exact some_of (by kernel_rfl)
  exact .ofInt (by kernel_rfl) hm rfl ⟨_, rfl⟩
theorem rd_129 : RdT T S 129 := by
  have hm : ∀ ds, SameL (T.dget 129 (T.dflt 129)) ds → ∃ x, T.dset 129 ds = some x := by
    intro ds h
    obtain ⟨c0, r0, rfl, ⟨b0, rfl⟩, h⟩ := h
    cases h
    exact some_of (by kernel_rfl)
  exact .ofSlice (e := 213) (by kernel_rfl) hm rfl ⟨_, rfl⟩ (by decide)
theorem rd_213 : RdT T S 213 := by
  have hm : ∀ ds, SameL (T.dget 213 (T.dflt 213)) ds → ∃ x, T.dset 213 ds = some x := by
    intro ds h
    obtain ⟨c0, r0, rfl, ⟨b0, rfl⟩, h⟩ := h
    obtain ⟨c1, r1, rfl, ⟨b1, rfl⟩, h⟩ := h
    obtain ⟨c2, r2, rfl, ⟨b2, rfl⟩, h⟩ := h
    obtain ⟨c3, r3, rfl, ⟨b3, rfl⟩, h⟩ := h
    obtain ⟨c4, r4, rfl, ⟨b4, rfl⟩, h⟩ := h
    cases h
    exact some_of (by kernel_rfl)
  exact .ofStruct (fs := [(0, 3), (1, 3), (2, 3), (3, 3), (4, 3)]) (by kernel_rfl) hm (by kernel_rfl) (by kernel_rfl) (by kernel_rfl) (by decide)
theorem rd_37 : RdT T S 37 := by
  have hm : ∀ ds, SameL (T.dget 37 (T.dflt 37)) ds → ∃ x, T.dset 37 ds = some x := by
    intro ds h
    obtain ⟨c0, r0, rfl, ⟨b0, rfl⟩, h⟩ := h
    obtain ⟨c1, r1, rfl, ⟨b1, rfl⟩, h⟩ := h
    cases h
    exact some_of (by kernel_rfl)
  exact .ofStruct (fs := [(0, 3), (1, 35)]) (by kernel_rfl) hm (by kernel_rfl) (by kernel_rfl) (by kernel_rfl) (by decide)
theorem rd_35 : RdT T S 35 := by
  have hm : ∀ ds, SameL (T.dget 35 (T.dflt 35)) ds → ∃ x, T.dset 35 ds = some x := by
    intro ds h
    obtain ⟨c0, r0, rfl, ⟨b0, rfl⟩, h⟩ := h
    cases h
    exact some_of (by kernel_rfl)
  exact .ofSlice (e := 23) (by kernel_rfl) hm rfl ⟨_, rfl⟩ (by decide)
theorem rd_23 : RdT T S 23 := by
  have hm : ∀ ds, SameL (T.dget 23 (T.dflt 23)) ds → ∃ x, T.dset 23 ds = some x := by
    intro ds h
    obtain ⟨c0, r0, rfl, ⟨b0, rfl⟩, h⟩ := h
    cases h
    exact some_of (by kernel_rfl)
  exact .ofSlice (e := 3) (by kernel_rfl) hm rfl ⟨_, rfl⟩ (by decide)
theorem rd_25 : RdT T S 25 := by
  have hm : ∀ ds, SameL (T.dget 25 (T.dflt 25)) ds → ∃ x, T.dset 25 ds = some x := by
    intro ds h
    obtain ⟨c0, r0, rfl, ⟨b0, rfl⟩, h⟩ := h
    obtain ⟨c1, r1, rfl, ⟨b1, rfl⟩, h⟩ := h
    cases h
    exact some_of (by kernel_rfl)
  exact .ofStruct (fs := [(0, 22), (1, 23)]) (by kernel_rfl) hm (by kernel_rfl) (by kernel_rfl) (by kernel_rfl) (by decide)
theorem rd_22 : RdT T S 22 := by
  have hm : ∀ ds, SameL (T.dget 22 (T.dflt 22)) ds → ∃ x, T.dset 22 ds = some x := by
    intro ds h
    obtain ⟨c0, r0, rfl, ⟨b0, rfl⟩, h⟩ := h
    cases h
    exact some_of (by kernel_rfl)
  exact .ofSlice (e := 215) (by kernel_rfl) hm rfl ⟨_, rfl⟩ (by decide)
theorem rd_215 : RdT T S 215 := by
  have hm : ∀ ds, SameL (T.dget 215 (T.dflt 215)) ds → ∃ x, T.dset 215 ds = some x := by
    intro ds h
    obtain ⟨c0, r0, rfl, ⟨b0, rfl⟩, h⟩ := h
    obtain ⟨c1, r1, rfl, ⟨b1, rfl⟩, h⟩ := h
    obtain ⟨c2, r2, rfl, ⟨b2, rfl⟩, h⟩ := h
    obtain ⟨c3, r3, rfl, ⟨b3, rfl⟩, h⟩ := h
    obtain ⟨c4, r4, rfl, ⟨b4, rfl⟩, h⟩ := h
    cases h
    exact some_of (by kernel_rfl)
  exact .ofStruct (fs := [(0, 3), (1, 9), (2, 9), (3, 3), (4, 77)]) (by kernel_rfl) hm (by kernel_rfl) (by kernel_rfl) (by kernel_rfl) (by decide)
theorem rd_9 : RdT T S 9 := by
  have hm : ∀ ds, SameL (T.dget 9 (T.dflt 9)) ds → ∃ x, T.dset 9 ds = some x := by
    intro ds h
    obtain ⟨c0, r0, rfl, ⟨b0, rfl⟩, h⟩ := h
    cases h
    exact some_of (by kernel_rfl)
  exact .ofStr (by kernel_rfl) hm rfl ⟨_, rfl⟩
theorem rd_77 : RdT T S 77 := by
  have hm : ∀ ds, SameL (T.dget 77 (T.dflt 77)) ds → ∃ x, T.dset 77 ds = some x := by
    intro ds h
    obtain ⟨c0, r0, rfl, ⟨b0, rfl⟩, h⟩ := h
    cases h
    exact some_of (by kernel_rfl)
  exact .ofSlice (e := 9) (by kernel_rfl) hm rfl ⟨_, rfl⟩ (by decide)
theorem rd_85 : RdT T S 85 := by
  have hm : ∀ ds, SameL (T.dget 85 (T.dflt 85)) ds → ∃ x, T.dset 85 ds = some x := by
    intro ds h
    obtain ⟨c0, r0, rfl, ⟨b0, rfl⟩, h⟩ := h
    obtain ⟨c1, r1, rfl, ⟨b1, rfl⟩, h⟩ := h
    obtain ⟨c2, r2, rfl, ⟨b2, rfl⟩, h⟩ := h
    cases h
    exact some_of (by kernel_rfl)
  exact .ofStruct (fs := [(0, 82), (1, 83), (2, 3)]) (by kernel_rfl) hm (by kernel_rfl) (by kernel_rfl) (by kernel_rfl) (by decide)
theorem rd_82 : RdT T S 82 := by
  have hm : ∀ ds, SameL (T.dget 82 (T.dflt 82)) ds → ∃ x, T.dset 82 ds = some x := by
    intro ds h
    obtain ⟨c0, r0, rfl, ⟨b0, rfl⟩, h⟩ := h
    cases h
    exact some_of (by kernel_rfl)
  exact .ofSlice (e := 239) (by kernel_rfl) hm rfl ⟨_, rfl⟩ (by decide)
theorem rd_239 : RdT T S 239 := by
  have hm : ∀ ds, SameL (T.dget 239 (T.dflt 239)) ds → ∃ x, T.dset 239 ds = some x := by
    intro ds h
    obtain ⟨c0, r0, rfl, ⟨b0, rfl⟩, h⟩ := h
    obtain ⟨c1, r1, rfl, ⟨b1, rfl⟩, h⟩ := h
    obtain ⟨c2, r2, rfl, ⟨b2, rfl⟩, h⟩ := h
    obtain ⟨c3, r3, rfl, ⟨b3, rfl⟩, h⟩ := h
    obtain ⟨c4, r4, rfl, ⟨b4, rfl⟩, h⟩ := h
    obtain ⟨c5, r5, rfl, ⟨b5, rfl⟩, h⟩ := h
    obtain ⟨c6, r6, rfl, ⟨b6, rfl⟩, h⟩ := h
    cases h
    exact some_of (by kernel_rfl)
  exact .ofStruct (fs := [(0, 3), (1, 3), (2, 3), (3, 3), (4, 3), (5, 3), (6, 3)]) (by kernel_rfl) hm (by kernel_rfl) (by kernel_rfl) (by kernel_rfl) (by decide)
theorem rd_83 : RdT T S 83 := by
  have hm : ∀ ds, SameL (T.dget 83 (T.dflt 83)) ds → ∃ x, T.dset 83 ds = some x := by
    intro ds h
    obtain ⟨c0, r0, rfl, ⟨b0, rfl⟩, h⟩ := h
    cases h
    exact some_of (by kernel_rfl)
  exact .ofSlice (e := 241) (by kernel_rfl) hm rfl ⟨_, rfl⟩ (by decide)
theorem rd_241 : RdT T S 241 := by
  have hm : ∀ ds, SameL (T.dget 241 (T.dflt 241)) ds → ∃ x, T.dset 241 ds = some x := by
    intro ds h
    obtain ⟨c0, r0, rfl, ⟨b0, rfl⟩, h⟩ := h
    obtain ⟨c1, r1, rfl, ⟨b1, rfl⟩, h⟩ := h
    obtain ⟨c2, r2, rfl, ⟨b2, rfl⟩, h⟩ := h
    cases h
    exact some_of (by kernel_rfl)
  exact .ofStruct (fs := [(0, 3), (1, 3), (2, 3)]) (by kernel_rfl) hm (by kernel_rfl) (by kernel_rfl) (by kernel_rfl) (by decide)
theorem rds : ∀ t ∈ S, RdT T S t := List.forall_mem_cons.2 ⟨rd_136, List.forall_mem_cons.2 ⟨rd_3, List.forall_mem_cons.2 ⟨rd_129, List.forall_mem_cons.2 ⟨rd_213, List.forall_mem_cons.2 ⟨rd_37, List.forall_mem_cons.2 ⟨rd_35, List.forall_mem_cons.2 ⟨rd_23, List.forall_mem_cons.2 ⟨rd_25, List.forall_mem_cons.2 ⟨rd_22, List.forall_mem_cons.2 ⟨rd_215, List.forall_mem_cons.2 ⟨rd_9, List.forall_mem_cons.2 ⟨rd_77, List.forall_mem_cons.2 ⟨rd_85, List.forall_mem_cons.2 ⟨rd_82, List.forall_mem_cons.2 ⟨rd_239, List.forall_mem_cons.2 ⟨rd_83, List.forall_mem_cons.2 ⟨rd_241, fun _ h => nomatch h⟩⟩⟩⟩⟩⟩⟩⟩⟩⟩⟩⟩⟩⟩⟩⟩⟩
theorem law_call : ∀ ar, ArgsAre T Try.f13.params.toList ar → CallOk Try.prog T 13 ar (laws_FnExactPortOk_enc true) := by
  intro ar h
  rw [Try.params13] at h
  obtain ⟨y0, r0, rfl, w0, rfl⟩ := h
  obtain ⟨n, hn⟩ := laws_FnExactPortOk_true y0 (wf_136 y0 w0)
  exact call_of (phiE_nat _ _) (sem n 77) ok mixed Try.func13 (c := laws_FnExactPortOk_code) (by kernel_rfl) (laws_FnExactPortOk_lo n) (by kernel_rfl) (by kernel_rfl) (by kernel_rfl) laws_FnExactPortOk_de ((laws_FnExactPortOk_tie n y0).trans hn)
end Go.Sm.D13
namespace Go.Proofs.Ytefibegfcfbcjaa
open Go.ChangeShapes Go.WideShapes Go.ChangeAt Go.RowKit Go.Sm Go.Sm.D13
theorem fnExactPortOk_lifted (os : Os) (started : os.Started) (H : Type) (enc : TypeId × Value → H) :
    ReturnsInHanded {} Try.checked os 13 .any (Rows.fnExactPortOkSpec.pre6 enc Try.prog Try.f13 Rows.fnExactPortOkRow.domain false) (Rows.fnExactPortOkSpec.post enc Try.prog Try.f13 false true false false) := by
  refine returnsInHanded_of_change (C := Try.checked) Try.own started (by kernel_rfl) Try.func13
    (ChangeSpec.witness6 (enc := enc) (C := Try.checked) false ⟨#[], #[.agg #[.int .i64 0, .slice none 0 0, .int .i64 0, .slice none 0 0, .slice none 0 0, .slice none 0 0, .slice none 0 0, .slice none 0 0, .int .i64 0]], []⟩ 8 (by kernel_rfl) (by kernel_rfl) (by kernel_rfl) (by kernel_rfl)) ?_
  intro W base args ds gs before hval hW _ _
  exact row_of (P := Try.prog) (T := T) (s := Rows.fnExactPortOkSpec) (fn := Try.f13) (tb := 4) ok rds Try.laidOut (by rw [Try.params13]; decide)
    (by rw [Try.params13]; exact List.forall_mem_cons.2 ⟨⟨by kernel_rfl, of_decide_eq_true (by kernel_rfl)⟩, fun _ h => nomatch h⟩) (by rw [Try.params13]; rfl) rfl (by rw [Try.params13]; intro ds h; match ds, h with | [d0], _ => rfl) (by rfl) Try.underlying4 hval hW rfl law_call
theorem fnExactPortOk_f1 : (Rows.fnExactPortOkRow.inPlace == Try.prog.inPlace 13) = true := by kernel_rfl
theorem fnExactPortOk_f2 : (Rows.fnExactPortOkRow.unfollowed == Try.prog.unfollowed 13) = true := by kernel_rfl
theorem fnExactPortOk_f3 : (Rows.fnExactPortOkRow.recurses == Try.prog.recurses 13) = true := by kernel_rfl
theorem fnExactPortOk_f4 : (Rows.fnExactPortOkRow.named == Try.prog.varsNamed 13) = true := by kernel_rfl
theorem fnExactPortOk_facts : joinedFacts Try.prog 13 Try.f13 Rows.fnExactPortOkSpec Rows.fnExactPortOkRow = true := by
  unfold joinedFacts
  exact and_mk (and_mk (and_mk (and_mk (and_mk (and_mk (and_mk (and_mk (and_mk (and_mk (and_mk (and_mk (and_mk (and_mk (and_mk (and_mk (and_mk (and_mk (and_mk (and_mk (and_mk (and_mk (and_mk (and_mk (and_mk (and_mk (and_mk (and_mk (and_mk (and_mk (and_mk
    (by kernel_rfl) Try.laidOut) Try.fRowed) (by kernel_rfl)) (by kernel_rfl)) (by kernel_rfl)) Try.fStops) (by kernel_rfl)) Try.fKnobs) fnExactPortOk_f1) fnExactPortOk_f2) fnExactPortOk_f3) fnExactPortOk_f4)
    (by kernel_rfl)) (by kernel_rfl)) (by kernel_rfl)) (by kernel_rfl)) (by kernel_rfl)) (by kernel_rfl)) (by kernel_rfl)) (by kernel_rfl)) (by kernel_rfl)) Try.fKeys) (by kernel_rfl)) Try.fHeard) Try.fEnter) Try.fLifted) Try.fMake) (by kernel_rfl)) (by kernel_rfl)) (by kernel_rfl)) (by kernel_rfl)
theorem fnExactPortOk_holds : Rows.FnExactPortOkSaid :=
  OpenClaim.holds_of_wide 13 Try.f13 rfl rfl rfl rfl rfl rfl rfl ⟨rfl, rfl, rfl, rfl, rfl⟩ rfl rfl rfl rfl rfl (by kernel_rfl) Try.func13 fnExactPortOk_facts
    (of_decide_eq_true (by kernel_rfl)) (by unfold Func.isWrapper; first | (rw [if_pos (by decide +kernel)]; kernel_rfl) | (rw [if_neg (by decide +kernel)]; exact ⟨rfl, rfl⟩))
    (fun os started H enc _ => fnExactPortOk_lifted os started H enc)
end Go.Proofs.Ytefibegfcfbcjaa
