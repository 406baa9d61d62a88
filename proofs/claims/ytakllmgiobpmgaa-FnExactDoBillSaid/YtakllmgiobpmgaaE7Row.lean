import Derived.Test.YtakllmgiobpmgaaEngD
import Derived.Test.YtakllmgiobpmgaaE7Tie
import Derived.Test.YtakllmgiobpmgaaE7Fn
import Derived.Test.YtakllmgiobpmgaaFacts
/- DoBill: of all books and ops the written-out way and the built one leave the same book and tell the same code. -/
set_option linter.unusedSimpArgs false
set_option linter.deprecated false
set_option linter.unusedSectionVars false
set_option linter.unusedVariables false
set_option maxRecDepth 100000
open Go Go.Proofs
noncomputable section
namespace Go.Sm.E7
abbrev S : List Nat := [61, 59, 191, 3, 9, 82, 24, 63]
theorem wf_9 (x : ByteArray) (h : ∀ d ∈ T.dget 9 x, WfD T d) : x.size ≤ 9223372036854775807 := by
  have h : ∀ d ∈ ([.str x] : List (D T.U)), WfD T d := h
  exact (WfD.s (h _ (.head _)))
theorem wf_191 (x : SBill) (h : ∀ d ∈ T.dget 191 x, WfD T d) : wfSBill x := by
  have h : ∀ d ∈ ([.int .i64 x.Id, .str x.Shipper, .str x.Order, .int .i64 x.Many, .arr 9 x.Held] : List (D T.U)), WfD T d := h
  exact ⟨(WfD.i (h _ (.head _))), (WfD.s (h _ (.tail _ (.head _)))), (WfD.s (h _ (.tail _ (.tail _ (.head _))))), (WfD.i (h _ (.tail _ (.tail _ (.tail _ (.head _)))))), ⟨(WfD.a (h _ (.tail _ (.tail _ (.tail _ (.tail _ (.head _))))))).1, fun y hy => wf_9 y ((WfD.a (h _ (.tail _ (.tail _ (.tail _ (.tail _ (.head _))))))).2 y hy)⟩⟩
theorem wf_3 (x : Int) (h : ∀ d ∈ T.dget 3 x, WfD T d) : rng (-9223372036854775808) 9223372036854775807 x := by
  have h : ∀ d ∈ ([.int .i64 x] : List (D T.U)), WfD T d := h
  exact (WfD.i (h _ (.head _)))
theorem wf_61 (x : SBook) (h : ∀ d ∈ T.dget 61 x, WfD T d) : wfSBook x := by
  have h : ∀ d ∈ ([.arr 191 x.Bills, .arr 3 x.Freed] : List (D T.U)), WfD T d := h
  exact ⟨⟨(WfD.a (h _ (.head _))).1, fun y hy => wf_191 y ((WfD.a (h _ (.head _))).2 y hy)⟩, ⟨(WfD.a (h _ (.tail _ (.head _)))).1, fun y hy => wf_3 y ((WfD.a (h _ (.tail _ (.head _)))).2 y hy)⟩⟩
theorem wf_63 (x : SBillOp) (h : ∀ d ∈ T.dget 63 x, WfD T d) : wfSBillOp x := by
  have h : ∀ d ∈ ([.int .i64 x.Kind, .int .i64 x.Id, .str x.Who, .str x.To, .int .i64 x.Number, .int .i64 x.Many] : List (D T.U)), WfD T d := h
  exact ⟨(WfD.i (h _ (.head _))), (WfD.i (h _ (.tail _ (.head _)))), (WfD.s (h _ (.tail _ (.tail _ (.head _))))), (WfD.s (h _ (.tail _ (.tail _ (.tail _ (.head _)))))), (WfD.i (h _ (.tail _ (.tail _ (.tail _ (.tail _ (.head _))))))), (WfD.i (h _ (.tail _ (.tail _ (.tail _ (.tail _ (.tail _ (.head _))))))))⟩
theorem rd_61 : RdT T S 61 := by
  have hm : ∀ ds, SameL (T.dget 61 (T.dflt 61)) ds → ∃ x, T.dset 61 ds = some x := by
    intro ds h
    obtain ⟨c0, r0, rfl, ⟨b0, rfl⟩, h⟩ := h
    obtain ⟨c1, r1, rfl, ⟨b1, rfl⟩, h⟩ := h
    cases h
    exact some_of (by kernel_rfl)
  exact .ofStruct (fs := [(0, 59), (1, 24)]) (by kernel_rfl) hm (by kernel_rfl) (by kernel_rfl) (by kernel_rfl) (by decide)
theorem rd_59 : RdT T S 59 := by
  have hm : ∀ ds, SameL (T.dget 59 (T.dflt 59)) ds → ∃ x, T.dset 59 ds = some x := by
    intro ds h
    obtain ⟨c0, r0, rfl, ⟨b0, rfl⟩, h⟩ := h
    cases h
    exact some_of (by kernel_rfl)
  exact .ofSlice (e := 191) (by kernel_rfl) hm rfl ⟨_, rfl⟩ (by decide)
theorem rd_191 : RdT T S 191 := by
  have hm : ∀ ds, SameL (T.dget 191 (T.dflt 191)) ds → ∃ x, T.dset 191 ds = some x := by
    intro ds h
    obtain ⟨c0, r0, rfl, ⟨b0, rfl⟩, h⟩ := h
    obtain ⟨c1, r1, rfl, ⟨b1, rfl⟩, h⟩ := h
    obtain ⟨c2, r2, rfl, ⟨b2, rfl⟩, h⟩ := h
    obtain ⟨c3, r3, rfl, ⟨b3, rfl⟩, h⟩ := h
    obtain ⟨c4, r4, rfl, ⟨b4, rfl⟩, h⟩ := h
    cases h
    exact some_of (by kernel_rfl)
  exact .ofStruct (fs := [(0, 3), (1, 9), (2, 9), (3, 3), (4, 82)]) (by kernel_rfl) hm (by kernel_rfl) (by kernel_rfl) (by kernel_rfl) (by decide)
theorem rd_3 : RdT T S 3 := by
  have hm : ∀ ds, SameL (T.dget 3 (T.dflt 3)) ds → ∃ x, T.dset 3 ds = some x := by
    intro ds h
    obtain ⟨c0, r0, rfl, ⟨b0, rfl⟩, h⟩ := h
    cases h
    exact some_of (by kernel_rfl)
  exact .ofInt (by kernel_rfl) hm rfl ⟨_, rfl⟩
theorem rd_9 : RdT T S 9 := by
  have hm : ∀ ds, SameL (T.dget 9 (T.dflt 9)) ds → ∃ x, T.dset 9 ds = some x := by
    intro ds h
    obtain ⟨c0, r0, rfl, ⟨b0, rfl⟩, h⟩ := h
    cases h
    exact some_of (by kernel_rfl)
  exact .ofStr (by kernel_rfl) hm rfl ⟨_, rfl⟩
theorem rd_82 : RdT T S 82 := by
  have hm : ∀ ds, SameL (T.dget 82 (T.dflt 82)) ds → ∃ x, T.dset 82 ds = some x := by
    intro ds h
    obtain ⟨c0, r0, rfl, ⟨b0, rfl⟩, h⟩ := h
    cases h
    exact some_of (by kernel_rfl)
  exact .ofSlice (e := 9) (by kernel_rfl) hm rfl ⟨_, rfl⟩ (by decide)
theorem rd_24 : RdT T S 24 := by
  have hm : ∀ ds, SameL (T.dget 24 (T.dflt 24)) ds → ∃ x, T.dset 24 ds = some x := by
    intro ds h
    obtain ⟨c0, r0, rfl, ⟨b0, rfl⟩, h⟩ := h
    cases h
    exact some_of (by kernel_rfl)
  exact .ofSlice (e := 3) (by kernel_rfl) hm rfl ⟨_, rfl⟩ (by decide)
theorem rd_63 : RdT T S 63 := by
  have hm : ∀ ds, SameL (T.dget 63 (T.dflt 63)) ds → ∃ x, T.dset 63 ds = some x := by
    intro ds h
    obtain ⟨c0, r0, rfl, ⟨b0, rfl⟩, h⟩ := h
    obtain ⟨c1, r1, rfl, ⟨b1, rfl⟩, h⟩ := h
    obtain ⟨c2, r2, rfl, ⟨b2, rfl⟩, h⟩ := h
    obtain ⟨c3, r3, rfl, ⟨b3, rfl⟩, h⟩ := h
    obtain ⟨c4, r4, rfl, ⟨b4, rfl⟩, h⟩ := h
    obtain ⟨c5, r5, rfl, ⟨b5, rfl⟩, h⟩ := h
    cases h
    exact some_of (by kernel_rfl)
  exact .ofStruct (fs := [(0, 3), (1, 3), (2, 9), (3, 9), (4, 3), (5, 3)]) (by kernel_rfl) hm (by kernel_rfl) (by kernel_rfl) (by kernel_rfl) (by decide)
theorem rds : ∀ t ∈ S, RdT T S t := List.forall_mem_cons.2 ⟨rd_61, List.forall_mem_cons.2 ⟨rd_59, List.forall_mem_cons.2 ⟨rd_191, List.forall_mem_cons.2 ⟨rd_3, List.forall_mem_cons.2 ⟨rd_9, List.forall_mem_cons.2 ⟨rd_82, List.forall_mem_cons.2 ⟨rd_24, List.forall_mem_cons.2 ⟨rd_63, fun _ h => nomatch h⟩⟩⟩⟩⟩⟩⟩⟩
theorem law_call : ∀ ar, ArgsAre T Try.f7.params.toList ar → CallOk Try.prog T 7 ar (laws_FnExactDoBill_enc true) := by
  intro ar h
  rw [Try.params7] at h
  obtain ⟨y0, r0, rfl, w0, y1, r1, rfl, w1, rfl⟩ := h
  obtain ⟨n, hn⟩ := laws_FnExactDoBill_true y0 y1 (wf_61 y0 w0) (wf_63 y1 w1)
  exact call_of (phiE_nat _ _) (sem n 64) ok mixed Try.func7 (c := laws_FnExactDoBill_code) (by kernel_rfl) (laws_FnExactDoBill_lo n) (by kernel_rfl) (by kernel_rfl) (by kernel_rfl) laws_FnExactDoBill_de ((laws_FnExactDoBill_tie n y0 y1).trans hn)
end Go.Sm.E7
namespace Go.Proofs.Ytakllmgiobpmgaa
open Go.ChangeShapes Go.WideShapes Go.ChangeAt Go.RowKit Go.Sm Go.Sm.E7
theorem fnExactDoBill_lifted (os : Os) (started : os.Started) (H : Type) (enc : TypeId × Value → H) :
    ReturnsInHanded {} Try.checked os 7 .any (Rows.fnExactDoBillSpec.pre6 enc Try.prog Try.f7 Rows.fnExactDoBillRow.domain false) (Rows.fnExactDoBillSpec.post enc Try.prog Try.f7 false true false false) := by
  refine returnsInHanded_of_change (C := Try.checked) Try.own started (by kernel_rfl) Try.func7
    (ChangeSpec.witness6 (enc := enc) (C := Try.checked) false ⟨#[], #[.agg #[.slice none 0 0, .slice none 0 0], .agg #[.int .i64 0, .int .i64 0, .string ⟨#[]⟩, .string ⟨#[]⟩, .int .i64 0, .int .i64 0]], []⟩ 8 (by kernel_rfl) (by kernel_rfl) (by kernel_rfl) (by kernel_rfl)) ?_
  intro W base args ds gs before hval hW _ _
  exact row_of (P := Try.prog) (T := T) (s := Rows.fnExactDoBillSpec) (fn := Try.f7) (tb := 4) ok rds Try.laidOut (by rw [Try.params7]; decide)
    (by rw [Try.params7]; exact List.forall_mem_cons.2 ⟨⟨by kernel_rfl, of_decide_eq_true (by kernel_rfl)⟩, List.forall_mem_cons.2 ⟨⟨by kernel_rfl, of_decide_eq_true (by kernel_rfl)⟩, fun _ h => nomatch h⟩⟩) (by rw [Try.params7]; rfl) rfl (by rw [Try.params7]; intro ds h; match ds, h with | [d0, d1], _ => rfl) (by rfl) Try.underlying4 hval hW rfl law_call
theorem fnExactDoBill_f1 : (Rows.fnExactDoBillRow.inPlace == Try.prog.inPlace 7) = true := by kernel_rfl
theorem fnExactDoBill_f2 : (Rows.fnExactDoBillRow.unfollowed == Try.prog.unfollowed 7) = true := by kernel_rfl
theorem fnExactDoBill_f3 : (Rows.fnExactDoBillRow.recurses == Try.prog.recurses 7) = true := by kernel_rfl
theorem fnExactDoBill_f4 : (Rows.fnExactDoBillRow.named == Try.prog.varsNamed 7) = true := by kernel_rfl
theorem fnExactDoBill_facts : joinedFacts Try.prog 7 Try.f7 Rows.fnExactDoBillSpec Rows.fnExactDoBillRow = true := by
  unfold joinedFacts
  exact and_mk (and_mk (and_mk (and_mk (and_mk (and_mk (and_mk (and_mk (and_mk (and_mk (and_mk (and_mk (and_mk (and_mk (and_mk (and_mk (and_mk (and_mk (and_mk (and_mk (and_mk (and_mk (and_mk (and_mk (and_mk (and_mk (and_mk (and_mk (and_mk (and_mk (and_mk
    (by kernel_rfl) Try.laidOut) Try.fRowed) (by kernel_rfl)) (by kernel_rfl)) (by kernel_rfl)) Try.fStops) (by kernel_rfl)) Try.fKnobs) fnExactDoBill_f1) fnExactDoBill_f2) fnExactDoBill_f3) fnExactDoBill_f4)
    (by kernel_rfl)) (by kernel_rfl)) (by kernel_rfl)) (by kernel_rfl)) (by kernel_rfl)) (by kernel_rfl)) (by kernel_rfl)) (by kernel_rfl)) (by kernel_rfl)) Try.fKeys) (by kernel_rfl)) Try.fHeard) Try.fEnter) Try.fLifted) Try.fMake) (by kernel_rfl)) (by kernel_rfl)) (by kernel_rfl)) (by kernel_rfl)
theorem fnExactDoBill_holds : Rows.FnExactDoBillSaid :=
  OpenClaim.holds_of_wide 7 Try.f7 rfl rfl rfl rfl rfl rfl rfl ⟨rfl, rfl, rfl, rfl, rfl⟩ rfl rfl rfl rfl rfl (by kernel_rfl) Try.func7 fnExactDoBill_facts
    (of_decide_eq_true (by kernel_rfl)) (by unfold Func.isWrapper; first | (rw [if_pos (by decide +kernel)]; kernel_rfl) | (rw [if_neg (by decide +kernel)]; exact ⟨rfl, rfl⟩))
    (fun os started H enc _ => fnExactDoBill_lifted os started H enc)
end Go.Proofs.Ytakllmgiobpmgaa
