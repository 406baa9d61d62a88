import Derived.Test.YtakllmgiobpmgaaGreatEngD
import Derived.Test.YtakllmgiobpmgaaGreatZ3Tie
import Derived.Test.YtakllmgiobpmgaaGreatZ3Fn
import Derived.Test.YtakllmgiobpmgaaGreatFacts
/- RunBills: of all books and lists of ops the written-out way and the built one leave the same book and tell the same codes. -/
set_option linter.unusedSimpArgs false
set_option linter.deprecated false
set_option linter.unusedSectionVars false
set_option linter.unusedVariables false
set_option maxRecDepth 100000
open Go Go.Proofs
noncomputable section
namespace Go.Sm.Z3
abbrev S : List Nat := [25, 22, 63, 3, 9, 61, 23, 26, 47]
theorem wf_9 (x : ByteArray) (h : ∀ d ∈ T.dget 9 x, WfD T d) : x.size ≤ 9223372036854775807 := by
  have h : ∀ d ∈ ([.str x] : List (D T.U)), WfD T d := h
  exact (WfD.s (h _ (.head _)))
theorem wf_63 (x : SBill) (h : ∀ d ∈ T.dget 63 x, WfD T d) : wfSBill x := by
  have h : ∀ d ∈ ([.int .i64 x.Id, .str x.Shipper, .str x.Order, .int .i64 x.Many, .arr 9 x.Held] : List (D T.U)), WfD T d := h
  exact ⟨(WfD.i (h _ (.head _))), (WfD.s (h _ (.tail _ (.head _)))), (WfD.s (h _ (.tail _ (.tail _ (.head _))))), (WfD.i (h _ (.tail _ (.tail _ (.tail _ (.head _)))))), ⟨(WfD.a (h _ (.tail _ (.tail _ (.tail _ (.tail _ (.head _))))))).1, fun y hy => wf_9 y ((WfD.a (h _ (.tail _ (.tail _ (.tail _ (.tail _ (.head _))))))).2 y hy)⟩⟩
theorem wf_3 (x : Int) (h : ∀ d ∈ T.dget 3 x, WfD T d) : rng (-9223372036854775808) 9223372036854775807 x := by
  have h : ∀ d ∈ ([.int .i64 x] : List (D T.U)), WfD T d := h
  exact (WfD.i (h _ (.head _)))
theorem wf_25 (x : SBook) (h : ∀ d ∈ T.dget 25 x, WfD T d) : wfSBook x := by
  have h : ∀ d ∈ ([.arr 63 x.Bills, .arr 3 x.Freed] : List (D T.U)), WfD T d := h
  exact ⟨⟨(WfD.a (h _ (.head _))).1, fun y hy => wf_63 y ((WfD.a (h _ (.head _))).2 y hy)⟩, ⟨(WfD.a (h _ (.tail _ (.head _)))).1, fun y hy => wf_3 y ((WfD.a (h _ (.tail _ (.head _)))).2 y hy)⟩⟩
theorem wf_47 (x : SBillOp) (h : ∀ d ∈ T.dget 47 x, WfD T d) : wfSBillOp x := by
  have h : ∀ d ∈ ([.int .i64 x.Kind, .int .i64 x.Id, .str x.Who, .str x.To, .int .i64 x.Number, .int .i64 x.Many] : List (D T.U)), WfD T d := h
  exact ⟨(WfD.i (h _ (.head _))), (WfD.i (h _ (.tail _ (.head _)))), (WfD.s (h _ (.tail _ (.tail _ (.head _))))), (WfD.s (h _ (.tail _ (.tail _ (.tail _ (.head _)))))), (WfD.i (h _ (.tail _ (.tail _ (.tail _ (.tail _ (.head _))))))), (WfD.i (h _ (.tail _ (.tail _ (.tail _ (.tail _ (.tail _ (.head _))))))))⟩
theorem wf_26 (x : List SBillOp) (h : ∀ d ∈ T.dget 26 x, WfD T d) : (x.length ≤ 9223372036854775807 ∧ ∀ y ∈ x, wfSBillOp y) := by
  have h : ∀ d ∈ ([.arr 47 x] : List (D T.U)), WfD T d := h
  exact ⟨(WfD.a (h _ (.head _))).1, fun y hy => wf_47 y ((WfD.a (h _ (.head _))).2 y hy)⟩
theorem rd_25 : RdT T S 25 := by
  have hm : ∀ ds, SameL (T.dget 25 (T.dflt 25)) ds → ∃ x, T.dset 25 ds = some x := by
    intro ds h
    obtain ⟨c0, r0, rfl, ⟨b0, rfl⟩, h⟩ := h
    obtain ⟨c1, r1, rfl, ⟨b1, rfl⟩, h⟩ := h
    cases h
    exact some_of (by kernel_rfl)
  exact .ofStruct (fs := [(0, 22), (1, 23)]) (by kernel_rfl) hm (by kernel_rfl) (by kernel_rfl) (by kernel_rfl) (by decide)
theorem rd_22 : RdT T S 22 := by
  have hm : ∀ ds, SameL (T.dget 22 (T.dflt 22)) ds → ∃ x, T.dset 22 ds = some x := by
    intro ds h
    obtain ⟨c0, r0, rfl, ⟨b0, rfl⟩, h⟩ := h
    cases h
    exact some_of (by kernel_rfl)
  exact .ofSlice (e := 63) (by kernel_rfl) hm rfl ⟨_, rfl⟩ (by decide)
theorem rd_63 : RdT T S 63 := by
  have hm : ∀ ds, SameL (T.dget 63 (T.dflt 63)) ds → ∃ x, T.dset 63 ds = some x := by
    intro ds h
    obtain ⟨c0, r0, rfl, ⟨b0, rfl⟩, h⟩ := h
    obtain ⟨c1, r1, rfl, ⟨b1, rfl⟩, h⟩ := h
    obtain ⟨c2, r2, rfl, ⟨b2, rfl⟩, h⟩ := h
    obtain ⟨c3, r3, rfl, ⟨b3, rfl⟩, h⟩ := h
    obtain ⟨c4, r4, rfl, ⟨b4, rfl⟩, h⟩ := h
    cases h
    exact some_of (by kernel_rfl)
  exact .ofStruct (fs := [(0, 3), (1, 9), (2, 9), (3, 3), (4, 61)]) (by kernel_rfl) hm (by kernel_rfl) (by kernel_rfl) (by kernel_rfl) (by decide)
theorem rd_3 : RdT T S 3 := by
  have hm : ∀ ds, SameL (T.dget 3 (T.dflt 3)) ds → ∃ x, T.dset 3 ds = some x := by
    intro ds h
    obtain ⟨c0, r0, rfl, ⟨b0, rfl⟩, h⟩ := h
    cases h
    exact some_of (by kernel_rfl)
  exact .ofInt (by kernel_rfl) hm rfl ⟨_, rfl⟩
theorem rd_9 : RdT T S 9 := by
  have hm : ∀ ds, SameL (T.dget 9 (T.dflt 9)) ds → ∃ x, T.dset 9 ds = some x := by
    intro ds h
    obtain ⟨c0, r0, rfl, ⟨b0, rfl⟩, h⟩ := h
    cases h
    exact some_of (by kernel_rfl)
  exact .ofStr (by kernel_rfl) hm rfl ⟨_, rfl⟩
theorem rd_61 : RdT T S 61 := by
  have hm : ∀ ds, SameL (T.dget 61 (T.dflt 61)) ds → ∃ x, T.dset 61 ds = some x := by
    intro ds h
    obtain ⟨c0, r0, rfl, ⟨b0, rfl⟩, h⟩ := h
    cases h
    exact some_of (by kernel_rfl)
  exact .ofSlice (e := 9) (by kernel_rfl) hm rfl ⟨_, rfl⟩ (by decide)
theorem rd_23 : RdT T S 23 := by
  have hm : ∀ ds, SameL (T.dget 23 (T.dflt 23)) ds → ∃ x, T.dset 23 ds = some x := by
    intro ds h
    obtain ⟨c0, r0, rfl, ⟨b0, rfl⟩, h⟩ := h
    cases h
    exact some_of (by kernel_rfl)
  exact .ofSlice (e := 3) (by kernel_rfl) hm rfl ⟨_, rfl⟩ (by decide)
theorem rd_26 : RdT T S 26 := by
  have hm : ∀ ds, SameL (T.dget 26 (T.dflt 26)) ds → ∃ x, T.dset 26 ds = some x := by
    intro ds h
    obtain ⟨c0, r0, rfl, ⟨b0, rfl⟩, h⟩ := h
    cases h
    exact some_of (by kernel_rfl)
  exact .ofSlice (e := 47) (by kernel_rfl) hm rfl ⟨_, rfl⟩ (by decide)
theorem rd_47 : RdT T S 47 := by
  have hm : ∀ ds, SameL (T.dget 47 (T.dflt 47)) ds → ∃ x, T.dset 47 ds = some x := by
    intro ds h
    obtain ⟨c0, r0, rfl, ⟨b0, rfl⟩, h⟩ := h
    obtain ⟨c1, r1, rfl, ⟨b1, rfl⟩, h⟩ := h
    obtain ⟨c2, r2, rfl, ⟨b2, rfl⟩, h⟩ := h
    obtain ⟨c3, r3, rfl, ⟨b3, rfl⟩, h⟩ := h
    obtain ⟨c4, r4, rfl, ⟨b4, rfl⟩, h⟩ := h
    obtain ⟨c5, r5, rfl, ⟨b5, rfl⟩, h⟩ := h
    cases h
    exact some_of (by kernel_rfl)
  exact .ofStruct (fs := [(0, 3), (1, 3), (2, 9), (3, 9), (4, 3), (5, 3)]) (by kernel_rfl) hm (by kernel_rfl) (by kernel_rfl) (by kernel_rfl) (by decide)
theorem rds : ∀ t ∈ S, RdT T S t := List.forall_mem_cons.2 ⟨rd_25, List.forall_mem_cons.2 ⟨rd_22, List.forall_mem_cons.2 ⟨rd_63, List.forall_mem_cons.2 ⟨rd_3, List.forall_mem_cons.2 ⟨rd_9, List.forall_mem_cons.2 ⟨rd_61, List.forall_mem_cons.2 ⟨rd_23, List.forall_mem_cons.2 ⟨rd_26, List.forall_mem_cons.2 ⟨rd_47, fun _ h => nomatch h⟩⟩⟩⟩⟩⟩⟩⟩⟩
theorem law_call : ∀ ar, ArgsAre T Tryz.f3.params.toList ar → CallOk Tryz.prog T 3 ar (laws_FnExactRunBills_enc true) := by
  intro ar h
  rw [Tryz.params3] at h
  obtain ⟨y0, r0, rfl, w0, y1, r1, rfl, w1, rfl⟩ := h
  obtain ⟨n, hn⟩ := laws_FnExactRunBills_true y0 y1 (wf_25 y0 w0) (wf_26 y1 w1)
  exact call_of (phiE_nat _ _) (sem n 71) ok mixed Tryz.func3 (c := laws_FnExactRunBills_code) (by kernel_rfl) (laws_FnExactRunBills_lo n) (by kernel_rfl) (by kernel_rfl) (by kernel_rfl) laws_FnExactRunBills_de ((laws_FnExactRunBills_tie n y0 y1).trans hn)
end Go.Sm.Z3
namespace Go.Proofs.YtakllmgiobpmgaaGreat
open Go.ChangeShapes Go.WideShapes Go.ChangeAt Go.RowKit Go.Sm Go.Sm.Z3
theorem fnExactRunBills_lifted (os : Os) (started : os.Started) (H : Type) (enc : TypeId × Value → H) :
    ReturnsInHanded {} Tryz.checked os 3 .any (Rows.fnExactRunBillsSpec.pre6 enc Tryz.prog Tryz.f3 Rows.fnExactRunBillsRow.domain false) (Rows.fnExactRunBillsSpec.post enc Tryz.prog Tryz.f3 false true false false) := by
  refine returnsInHanded_of_change (C := Tryz.checked) Tryz.own started (by kernel_rfl) Tryz.func3
    (ChangeSpec.witness6 (enc := enc) (C := Tryz.checked) false ⟨#[], #[.agg #[.slice none 0 0, .slice none 0 0], .slice none 0 0], []⟩ 8 (by kernel_rfl) (by kernel_rfl) (by kernel_rfl) (by kernel_rfl)) ?_
  intro W base args ds gs before hval hW _ _
  exact row_of (P := Tryz.prog) (T := T) (s := Rows.fnExactRunBillsSpec) (fn := Tryz.f3) (tb := 4) ok rds Tryz.laidOut (by rw [Tryz.params3]; decide)
    (by rw [Tryz.params3]; exact List.forall_mem_cons.2 ⟨⟨by kernel_rfl, of_decide_eq_true (by kernel_rfl)⟩, List.forall_mem_cons.2 ⟨⟨by kernel_rfl, of_decide_eq_true (by kernel_rfl)⟩, fun _ h => nomatch h⟩⟩) (by rw [Tryz.params3]; rfl) rfl (by rw [Tryz.params3]; intro ds h; match ds, h with | [d0, d1], _ => rfl) (by rfl) Tryz.underlying4 hval hW rfl law_call
theorem fnExactRunBills_f1 : (Rows.fnExactRunBillsRow.inPlace == Tryz.prog.inPlace 3) = true := by kernel_rfl
theorem fnExactRunBills_f2 : (Rows.fnExactRunBillsRow.unfollowed == Tryz.prog.unfollowed 3) = true := by kernel_rfl
theorem fnExactRunBills_f3 : (Rows.fnExactRunBillsRow.recurses == Tryz.prog.recurses 3) = true := by kernel_rfl
theorem fnExactRunBills_f4 : (Rows.fnExactRunBillsRow.named == Tryz.prog.varsNamed 3) = true := by kernel_rfl
theorem fnExactRunBills_facts : joinedFacts Tryz.prog 3 Tryz.f3 Rows.fnExactRunBillsSpec Rows.fnExactRunBillsRow = true := by
  unfold joinedFacts
  exact and_mk (and_mk (and_mk (and_mk (and_mk (and_mk (and_mk (and_mk (and_mk (and_mk (and_mk (and_mk (and_mk (and_mk (and_mk (and_mk (and_mk (and_mk (and_mk (and_mk (and_mk (and_mk (and_mk (and_mk (and_mk (and_mk (and_mk (and_mk (and_mk (and_mk (and_mk
    (by kernel_rfl) Tryz.laidOut) Tryz.fRowed) (by kernel_rfl)) (by kernel_rfl)) (by kernel_rfl)) Tryz.fStops) (by kernel_rfl)) Tryz.fKnobs) fnExactRunBills_f1) fnExactRunBills_f2) fnExactRunBills_f3) fnExactRunBills_f4)
    (by kernel_rfl)) (by kernel_rfl)) (by kernel_rfl)) (by kernel_rfl)) (by kernel_rfl)) (by kernel_rfl)) (by kernel_rfl)) (by kernel_rfl)) (by kernel_rfl)) Tryz.fKeys) (by kernel_rfl)) Tryz.fHeard) Tryz.fEnter) Tryz.fLifted) Tryz.fMake) (by kernel_rfl)) (by kernel_rfl)) (by kernel_rfl)) (by kernel_rfl)
theorem fnExactRunBills_holds : Rows.FnExactRunBillsSaid :=
  OpenClaim.holds_of_wide 3 Tryz.f3 rfl rfl rfl rfl rfl rfl rfl ⟨rfl, rfl, rfl, rfl, rfl⟩ rfl rfl rfl rfl rfl (by kernel_rfl) Tryz.func3 fnExactRunBills_facts
    (of_decide_eq_true (by kernel_rfl)) (by unfold Func.isWrapper; first | (rw [if_pos (by decide +kernel)]; kernel_rfl) | (rw [if_neg (by decide +kernel)]; exact ⟨rfl, rfl⟩))
    (fun os started H enc _ => fnExactRunBills_lifted os started H enc)
end Go.Proofs.YtakllmgiobpmgaaGreat
