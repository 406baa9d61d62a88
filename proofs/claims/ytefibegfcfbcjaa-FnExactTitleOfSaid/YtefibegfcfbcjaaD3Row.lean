import Derived.Test.YtefibegfcfbcjaaEngD
import Derived.Test.YtefibegfcfbcjaaD3Tie
import Derived.Test.YtefibegfcfbcjaaD3Fn
import Derived.Test.YtefibegfcfbcjaaFacts
/- The program's TitleOf returns what the reference's returns, for all arguments whose sizes the statement's guards let in. -/
set_option linter.unusedSimpArgs false
set_option linter.deprecated false
set_option linter.unusedSectionVars false
set_option linter.unusedVariables false
set_option maxRecDepth 100000
open Go Go.Proofs
noncomputable section
namespace Go.Sm.D3
abbrev S : List Nat := [25, 22, 215, 3, 9, 77, 23]
theorem wf_9 (x : ByteArray) (h : ∀ d ∈ T.dget 9 x, WfD T d) : x.size ≤ 9223372036854775807 := by
  have h : ∀ d ∈ ([.str x] : List (D T.U)), WfD T d := h
  exact (WfD.s (h _ (.head _)))
theorem wf_215 (x : SBill) (h : ∀ d ∈ T.dget 215 x, WfD T d) : wfSBill x := by
  have h : ∀ d ∈ ([.int .i64 x.Id, .str x.Shipper, .str x.Order, .int .i64 x.Many, .arr 9 x.Held] : List (D T.U)), WfD T d := h
  exact ⟨(WfD.i (h _ (.head _))), (WfD.s (h _ (.tail _ (.head _)))), (WfD.s (h _ (.tail _ (.tail _ (.head _))))), (WfD.i (h _ (.tail _ (.tail _ (.tail _ (.head _)))))), ⟨(WfD.a (h _ (.tail _ (.tail _ (.tail _ (.tail _ (.head _))))))).1, fun y hy => wf_9 y ((WfD.a (h _ (.tail _ (.tail _ (.tail _ (.tail _ (.head _))))))).2 y hy)⟩⟩
theorem wf_3 (x : Int) (h : ∀ d ∈ T.dget 3 x, WfD T d) : rng (-9223372036854775808) 9223372036854775807 x := by
  have h : ∀ d ∈ ([.int .i64 x] : List (D T.U)), WfD T d := h
  exact (WfD.i (h _ (.head _)))
theorem wf_25 (x : SBook) (h : ∀ d ∈ T.dget 25 x, WfD T d) : wfSBook x := by
  have h : ∀ d ∈ ([.arr 215 x.Bills, .arr 3 x.Freed] : List (D T.U)), WfD T d := h
  exact ⟨⟨(WfD.a (h _ (.head _))).1, fun y hy => wf_215 y ((WfD.a (h _ (.head _))).2 y hy)⟩, ⟨(WfD.a (h _ (.tail _ (.head _)))).1, fun y hy => wf_3 y ((WfD.a (h _ (.tail _ (.head _)))).2 y hy)⟩⟩
theorem rd_25 : RdT T S 25 := by
  have hm : ∀ ds, SameL (T.dget 25 (T.dflt 25)) ds → ∃ x, T.dset 25 ds = some x := by
    intro ds h
    obtain ⟨c0, r0, rfl, ⟨b0, rfl⟩, h⟩ := h
    obtain ⟨c1, r1, rfl, ⟨b1, rfl⟩, h⟩ := h
    cases h
    exact some_of (by kernel_rfl)
  exact .ofStruct (fs := [(0, 22), (1, 23)]) (by kernel_rfl) hm (by kernel_rfl) (by kernel_rfl) (by kernel_rfl) (by decide)
theorem rd_22 : RdT T S 22 := by
  have hm : ∀ ds, SameL (T.dget 22 (T.dflt 22)) ds → ∃ x, T.dset 22 ds = some x := by
    intro ds h
    obtain ⟨c0, r0, rfl, ⟨b0, rfl⟩, h⟩ := h
    cases h
    exact some_of (by kernel_rfl)
  exact .ofSlice (e := 215) (by kernel_rfl) hm rfl ⟨_, rfl⟩ (by decide)
theorem rd_215 : RdT T S 215 := by
  have hm : ∀ ds, SameL (T.dget 215 (T.dflt 215)) ds → ∃ x, T.dset 215 ds = some x := by
    intro ds h
    obtain ⟨c0, r0, rfl, ⟨b0, rfl⟩, h⟩ := h
    obtain ⟨c1, r1, rfl, ⟨b1, rfl⟩, h⟩ := h
    obtain ⟨c2, r2, rfl, ⟨b2, rfl⟩, h⟩ := h
    obtain ⟨c3, r3, rfl, ⟨b3, rfl⟩, h⟩ := h
    obtain ⟨c4, r4, rfl, ⟨b4, rfl⟩, h⟩ := h
    cases h
    exact some_of (by kernel_rfl)
  exact .ofStruct (fs := [(0, 3), (1, 9), (2, 9), (3, 3), (4, 77)]) (by kernel_rfl) hm (by kernel_rfl) (by kernel_rfl) (by kernel_rfl) (by decide)
theorem rd_3 : RdT T S 3 := by
  have hm : ∀ ds, SameL (T.dget 3 (T.dflt 3)) ds → ∃ x, T.dset 3 ds = some x := by
    intro ds h
    obtain ⟨c0, r0, rfl, ⟨b0, rfl⟩, h⟩ := h
    cases h
    exact some_of (by kernel_rfl)
  exact .ofInt (by kernel_rfl) hm rfl ⟨_, rfl⟩
theorem rd_9 : RdT T S 9 := by
  have hm : ∀ ds, SameL (T.dget 9 (T.dflt 9)) ds → ∃ x, T.dset 9 ds = some x := by
    intro ds h
    obtain ⟨c0, r0, rfl, ⟨b0, rfl⟩, h⟩ := h
    cases h
    exact some_of (by kernel_rfl)
  exact .ofStr (by kernel_rfl) hm rfl ⟨_, rfl⟩
theorem rd_77 : RdT T S 77 := by
  have hm : ∀ ds, SameL (T.dget 77 (T.dflt 77)) ds → ∃ x, T.dset 77 ds = some x := by
    intro ds h
    obtain ⟨c0, r0, rfl, ⟨b0, rfl⟩, h⟩ := h
    cases h
    exact some_of (by kernel_rfl)
  exact .ofSlice (e := 9) (by kernel_rfl) hm rfl ⟨_, rfl⟩ (by decide)
theorem rd_23 : RdT T S 23 := by
  have hm : ∀ ds, SameL (T.dget 23 (T.dflt 23)) ds → ∃ x, T.dset 23 ds = some x := by
    intro ds h
    obtain ⟨c0, r0, rfl, ⟨b0, rfl⟩, h⟩ := h
    cases h
    exact some_of (by kernel_rfl)
  exact .ofSlice (e := 3) (by kernel_rfl) hm rfl ⟨_, rfl⟩ (by decide)
theorem rds : ∀ t ∈ S, RdT T S t := List.forall_mem_cons.2 ⟨rd_25, List.forall_mem_cons.2 ⟨rd_22, List.forall_mem_cons.2 ⟨rd_215, List.forall_mem_cons.2 ⟨rd_3, List.forall_mem_cons.2 ⟨rd_9, List.forall_mem_cons.2 ⟨rd_77, List.forall_mem_cons.2 ⟨rd_23, fun _ h => nomatch h⟩⟩⟩⟩⟩⟩⟩
theorem law_call : ∀ ar, ArgsAre T Try.f3.params.toList ar → CallOk Try.prog T 3 ar (laws_FnExactTitleOf_enc true) := by
  intro ar h
  rw [Try.params3] at h
  obtain ⟨y0, r0, rfl, w0, y1, r1, rfl, w1, rfl⟩ := h
  obtain ⟨n, hn⟩ := laws_FnExactTitleOf_true y0 y1 (wf_25 y0 w0) (wf_3 y1 w1)
  exact call_of (phiE_nat _ _) (sem n 35) ok mixed Try.func3 (c := laws_FnExactTitleOf_code) (by kernel_rfl) (laws_FnExactTitleOf_lo n) (by kernel_rfl) (by kernel_rfl) (by kernel_rfl) laws_FnExactTitleOf_de ((laws_FnExactTitleOf_tie n y0 y1).trans hn)
end Go.Sm.D3
namespace Go.Proofs.Ytefibegfcfbcjaa
open Go.ChangeShapes Go.WideShapes Go.ChangeAt Go.RowKit Go.Sm Go.Sm.D3
theorem fnExactTitleOf_lifted (os : Os) (started : os.Started) (H : Type) (enc : TypeId × Value → H) :
    ReturnsInHanded {} Try.checked os 3 .any (Rows.fnExactTitleOfSpec.pre6 enc Try.prog Try.f3 Rows.fnExactTitleOfRow.domain false) (Rows.fnExactTitleOfSpec.post enc Try.prog Try.f3 false true false false) := by
  refine returnsInHanded_of_change (C := Try.checked) Try.own started (by kernel_rfl) Try.func3
    (ChangeSpec.witness6 (enc := enc) (C := Try.checked) false ⟨#[], #[.agg #[.slice none 0 0, .slice none 0 0], .int .i64 0], []⟩ 8 (by kernel_rfl) (by kernel_rfl) (by kernel_rfl) (by kernel_rfl)) ?_
  intro W base args ds gs before hval hW _ _
  exact row_of (P := Try.prog) (T := T) (s := Rows.fnExactTitleOfSpec) (fn := Try.f3) (tb := 4) ok rds Try.laidOut (by rw [Try.params3]; decide)
    (by rw [Try.params3]; exact List.forall_mem_cons.2 ⟨⟨by kernel_rfl, of_decide_eq_true (by kernel_rfl)⟩, List.forall_mem_cons.2 ⟨⟨by kernel_rfl, of_decide_eq_true (by kernel_rfl)⟩, fun _ h => nomatch h⟩⟩) (by rw [Try.params3]; rfl) rfl (by rw [Try.params3]; intro ds h; match ds, h with | [d0, d1], _ => rfl) (by rfl) Try.underlying4 hval hW rfl law_call
theorem fnExactTitleOf_f1 : (Rows.fnExactTitleOfRow.inPlace == Try.prog.inPlace 3) = true := by kernel_rfl
theorem fnExactTitleOf_f2 : (Rows.fnExactTitleOfRow.unfollowed == Try.prog.unfollowed 3) = true := by kernel_rfl
theorem fnExactTitleOf_f3 : (Rows.fnExactTitleOfRow.recurses == Try.prog.recurses 3) = true := by kernel_rfl
theorem fnExactTitleOf_f4 : (Rows.fnExactTitleOfRow.named == Try.prog.varsNamed 3) = true := by kernel_rfl
theorem fnExactTitleOf_facts : joinedFacts Try.prog 3 Try.f3 Rows.fnExactTitleOfSpec Rows.fnExactTitleOfRow = true := by
  unfold joinedFacts
  exact and_mk (and_mk (and_mk (and_mk (and_mk (and_mk (and_mk (and_mk (and_mk (and_mk (and_mk (and_mk (and_mk (and_mk (and_mk (and_mk (and_mk (and_mk (and_mk (and_mk (and_mk (and_mk (and_mk (and_mk (and_mk (and_mk (and_mk (and_mk (and_mk (and_mk (and_mk
    (by kernel_rfl) Try.laidOut) Try.fRowed) (by kernel_rfl)) (by kernel_rfl)) (by kernel_rfl)) Try.fStops) (by kernel_rfl)) Try.fKnobs) fnExactTitleOf_f1) fnExactTitleOf_f2) fnExactTitleOf_f3) fnExactTitleOf_f4)
    (by kernel_rfl)) (by kernel_rfl)) (by kernel_rfl)) (by kernel_rfl)) (by kernel_rfl)) (by kernel_rfl)) (by kernel_rfl)) (by kernel_rfl)) (by kernel_rfl)) Try.fKeys) (by kernel_rfl)) Try.fHeard) Try.fEnter) Try.fLifted) Try.fMake) (by kernel_rfl)) (by kernel_rfl)) (by kernel_rfl)) (by kernel_rfl)
theorem fnExactTitleOf_holds : Rows.FnExactTitleOfSaid :=
  OpenClaim.holds_of_wide 3 Try.f3 rfl rfl rfl rfl rfl rfl rfl ⟨rfl, rfl, rfl, rfl, rfl⟩ rfl rfl rfl rfl rfl (by kernel_rfl) Try.func3 fnExactTitleOf_facts
    (of_decide_eq_true (by kernel_rfl)) (by unfold Func.isWrapper; first | (rw [if_pos (by decide +kernel)]; kernel_rfl) | (rw [if_neg (by decide +kernel)]; exact ⟨rfl, rfl⟩))
    (fun os started H enc _ => fnExactTitleOf_lifted os started H enc)
end Go.Proofs.Ytefibegfcfbcjaa
