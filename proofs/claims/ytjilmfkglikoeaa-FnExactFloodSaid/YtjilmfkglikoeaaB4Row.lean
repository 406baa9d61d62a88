import Derived.Test.YtjilmfkglikoeaaEngD
import Derived.Test.YtjilmfkglikoeaaB4Tie
import Derived.Test.YtjilmfkglikoeaaB4Fn
import Derived.Test.YtjilmfkglikoeaaFacts
/- Flood: the hull with rooms full of water comes out alike from the written-out way and the built one, for every hull and all rooms. -/
set_option linter.unusedSimpArgs false
set_option linter.deprecated false
set_option linter.unusedSectionVars false
set_option linter.unusedVariables false
set_option maxRecDepth 100000
open Go Go.Proofs
noncomputable section
namespace Go.Sm.B4
abbrev S : List Nat := [43, 3, 24, 55, 44, 169]
theorem wf_3 (x : Int) (h : ∀ d ∈ T.dget 3 x, WfD T d) : rng (-9223372036854775808) 9223372036854775807 x := by
  have h : ∀ d ∈ ([.int .i64 x] : List (D T.U)), WfD T d := h
  exact (WfD.i (h _ (.head _)))
theorem wf_55 (x : List Int) (h : ∀ d ∈ T.dget 55 x, WfD T d) : (x.length ≤ 9223372036854775807 ∧ ∀ y ∈ x, rng (-9223372036854775808) 9223372036854775807 y) := by
  have h : ∀ d ∈ ([.arr 3 x] : List (D T.U)), WfD T d := h
  exact ⟨(WfD.a (h _ (.head _))).1, fun y hy => wf_3 y ((WfD.a (h _ (.head _))).2 y hy)⟩
theorem wf_43 (x : SHull) (h : ∀ d ∈ T.dget 43 x, WfD T d) : wfSHull x := by
  have h : ∀ d ∈ ([.int .i64 x.Step, .int .i64 x.Rise, .arr 55 x.Half] : List (D T.U)), WfD T d := h
  exact ⟨(WfD.i (h _ (.head _))), (WfD.i (h _ (.tail _ (.head _)))), ⟨(WfD.a (h _ (.tail _ (.tail _ (.head _))))).1, fun y hy => wf_55 y ((WfD.a (h _ (.tail _ (.tail _ (.head _))))).2 y hy)⟩⟩
theorem wf_169 (x : SRoom) (h : ∀ d ∈ T.dget 169 x, WfD T d) : wfSRoom x := by
  have h : ∀ d ∈ ([.int .i64 x.First, .int .i64 x.Last, .int .i64 x.Perm] : List (D T.U)), WfD T d := h
  exact ⟨(WfD.i (h _ (.head _))), (WfD.i (h _ (.tail _ (.head _)))), (WfD.i (h _ (.tail _ (.tail _ (.head _)))))⟩
theorem wf_44 (x : List SRoom) (h : ∀ d ∈ T.dget 44 x, WfD T d) : (x.length ≤ 9223372036854775807 ∧ ∀ y ∈ x, wfSRoom y) := by
  have h : ∀ d ∈ ([.arr 169 x] : List (D T.U)), WfD T d := h
  exact ⟨(WfD.a (h _ (.head _))).1, fun y hy => wf_169 y ((WfD.a (h _ (.head _))).2 y hy)⟩
theorem rd_43 : RdT T S 43 := by
  have hm : ∀ ds, SameL (T.dget 43 (T.dflt 43)) ds → ∃ x, T.dset 43 ds = some x := by
    intro ds h
    obtain ⟨c0, r0, rfl, ⟨b0, rfl⟩, h⟩ := h
    obtain ⟨c1, r1, rfl, ⟨b1, rfl⟩, h⟩ := h
    obtain ⟨c2, r2, rfl, ⟨b2, rfl⟩, h⟩ := h
    cases h
    exact some_of (by kernel_rfl)
  exact .ofStruct (fs := [(0, 3), (1, 3), (2, 24)]) (by kernel_rfl) hm (by kernel_rfl) (by kernel_rfl) (by kernel_rfl) (by decide)
theorem rd_3 : RdT T S 3 := by
  have hm : ∀ ds, SameL (T.dget 3 (T.dflt 3)) ds → ∃ x, T.dset 3 ds = some x := by
    intro ds h
    obtain ⟨c0, r0, rfl, ⟨b0, rfl⟩, h⟩ := h
    cases h
    exact some_of (by kernel_rfl)
  exact .ofInt (by kernel_rfl) hm rfl ⟨_, rfl⟩
theorem rd_24 : RdT T S 24 := by
  have hm : ∀ ds, SameL (T.dget 24 (T.dflt 24)) ds → ∃ x, T.dset 24 ds = some x := by
    intro ds h
    obtain ⟨c0, r0, rfl, ⟨b0, rfl⟩, h⟩ := h
    cases h
    exact some_of (by kernel_rfl)
  exact .ofSlice (e := 55) (by kernel_rfl) hm rfl ⟨_, rfl⟩ (by decide)
theorem rd_55 : RdT T S 55 := by
  have hm : ∀ ds, SameL (T.dget 55 (T.dflt 55)) ds → ∃ x, T.dset 55 ds = some x := by
    intro ds h
    obtain ⟨c0, r0, rfl, ⟨b0, rfl⟩, h⟩ := h
    cases h
    exact some_of (by kernel_rfl)
  exact .ofSlice (e := 3) (by kernel_rfl) hm rfl ⟨_, rfl⟩ (by decide)
theorem rd_44 : RdT T S 44 := by
  have hm : ∀ ds, SameL (T.dget 44 (T.dflt 44)) ds → ∃ x, T.dset 44 ds = some x := by
    intro ds h
    obtain ⟨c0, r0, rfl, ⟨b0, rfl⟩, h⟩ := h
    cases h
    exact some_of (by kernel_rfl)
  exact .ofSlice (e := 169) (by kernel_rfl) hm rfl ⟨_, rfl⟩ (by decide)
theorem rd_169 : RdT T S 169 := by
  have hm : ∀ ds, SameL (T.dget 169 (T.dflt 169)) ds → ∃ x, T.dset 169 ds = some x := by
    intro ds h
    obtain ⟨c0, r0, rfl, ⟨b0, rfl⟩, h⟩ := h
    obtain ⟨c1, r1, rfl, ⟨b1, rfl⟩, h⟩ := h
    obtain ⟨c2, r2, rfl, ⟨b2, rfl⟩, h⟩ := h
    cases h
    exact some_of (by kernel_rfl)
  exact .ofStruct (fs := [(0, 3), (1, 3), (2, 3)]) (by kernel_rfl) hm (by kernel_rfl) (by kernel_rfl) (by kernel_rfl) (by decide)
theorem rds : ∀ t ∈ S, RdT T S t := List.forall_mem_cons.2 ⟨rd_43, List.forall_mem_cons.2 ⟨rd_3, List.forall_mem_cons.2 ⟨rd_24, List.forall_mem_cons.2 ⟨rd_55, List.forall_mem_cons.2 ⟨rd_44, List.forall_mem_cons.2 ⟨rd_169, fun _ h => nomatch h⟩⟩⟩⟩⟩⟩
theorem law_call : ∀ ar, ArgsAre T Try.f4.params.toList ar → CallOk Try.prog T 4 ar (laws_FnExactFlood_enc true) := by
  intro ar h
  rw [Try.params4] at h
  obtain ⟨y0, r0, rfl, w0, y1, r1, rfl, w1, rfl⟩ := h
  obtain ⟨n, hn⟩ := laws_FnExactFlood_true y0 y1 (wf_43 y0 w0) (wf_44 y1 w1)
  exact call_of (phiE_nat _ _) (sem n 35) ok mixed Try.func4 (c := laws_FnExactFlood_code) (by kernel_rfl) (laws_FnExactFlood_lo n) (by kernel_rfl) (by kernel_rfl) (by kernel_rfl) laws_FnExactFlood_de ((laws_FnExactFlood_tie n y0 y1).trans hn)
end Go.Sm.B4
namespace Go.Proofs.Ytjilmfkglikoeaa
open Go.ChangeShapes Go.WideShapes Go.ChangeAt Go.RowKit Go.Sm Go.Sm.B4
theorem fnExactFlood_lifted (os : Os) (started : os.Started) (H : Type) (enc : TypeId × Value → H) :
    ReturnsInHanded {} Try.checked os 4 .any (Rows.fnExactFloodSpec.pre6 enc Try.prog Try.f4 Rows.fnExactFloodRow.domain false) (Rows.fnExactFloodSpec.post enc Try.prog Try.f4 false true false false) := by
  refine returnsInHanded_of_change (C := Try.checked) Try.own started (by kernel_rfl) Try.func4
    (ChangeSpec.witness6 (enc := enc) (C := Try.checked) false ⟨#[], #[.agg #[.int .i64 0, .int .i64 0, .slice none 0 0], .slice none 0 0], []⟩ 8 (by kernel_rfl) (by kernel_rfl) (by kernel_rfl) (by kernel_rfl)) ?_
  intro W base args ds gs before hval hW _ _
  exact row_of (P := Try.prog) (T := T) (s := Rows.fnExactFloodSpec) (fn := Try.f4) (tb := 4) ok rds Try.laidOut (by rw [Try.params4]; decide)
    (by rw [Try.params4]; exact List.forall_mem_cons.2 ⟨⟨by kernel_rfl, of_decide_eq_true (by kernel_rfl)⟩, List.forall_mem_cons.2 ⟨⟨by kernel_rfl, of_decide_eq_true (by kernel_rfl)⟩, fun _ h => nomatch h⟩⟩) (by rw [Try.params4]; rfl) rfl (by rw [Try.params4]; intro ds h; match ds, h with | [d0, d1], _ => rfl) (by rfl) Try.underlying4 hval hW rfl law_call
theorem fnExactFlood_f1 : (Rows.fnExactFloodRow.inPlace == Try.prog.inPlace 4) = true := by kernel_rfl
theorem fnExactFlood_f2 : (Rows.fnExactFloodRow.unfollowed == Try.prog.unfollowed 4) = true := by kernel_rfl
theorem fnExactFlood_f3 : (Rows.fnExactFloodRow.recurses == Try.prog.recurses 4) = true := by kernel_rfl
theorem fnExactFlood_f4 : (Rows.fnExactFloodRow.named == Try.prog.varsNamed 4) = true := by kernel_rfl
theorem fnExactFlood_facts : joinedFacts Try.prog 4 Try.f4 Rows.fnExactFloodSpec Rows.fnExactFloodRow = true := by
  unfold joinedFacts
  exact and_mk (and_mk (and_mk (and_mk (and_mk (and_mk (and_mk (and_mk (and_mk (and_mk (and_mk (and_mk (and_mk (and_mk (and_mk (and_mk (and_mk (and_mk (and_mk (and_mk (and_mk (and_mk (and_mk (and_mk (and_mk (and_mk (and_mk (and_mk (and_mk (and_mk (and_mk
    (by kernel_rfl) Try.laidOut) Try.fRowed) (by kernel_rfl)) (by kernel_rfl)) (by kernel_rfl)) Try.fStops) (by kernel_rfl)) Try.fKnobs) fnExactFlood_f1) fnExactFlood_f2) fnExactFlood_f3) fnExactFlood_f4)
    (by kernel_rfl)) (by kernel_rfl)) (by kernel_rfl)) (by kernel_rfl)) (by kernel_rfl)) (by kernel_rfl)) (by kernel_rfl)) (by kernel_rfl)) (by kernel_rfl)) Try.fKeys) (by kernel_rfl)) Try.fHeard) Try.fEnter) Try.fLifted) Try.fMake) (by kernel_rfl)) (by kernel_rfl)) (by kernel_rfl)) (by kernel_rfl)
theorem fnExactFlood_holds : Rows.FnExactFloodSaid :=
  OpenClaim.holds_of_wide 4 Try.f4 rfl rfl rfl rfl rfl rfl rfl ⟨rfl, rfl, rfl, rfl, rfl⟩ rfl rfl rfl rfl rfl (by kernel_rfl) Try.func4 fnExactFlood_facts
    (of_decide_eq_true (by kernel_rfl)) (by unfold Func.isWrapper; first | (rw [if_pos (by decide +kernel)]; kernel_rfl) | (rw [if_neg (by decide +kernel)]; exact ⟨rfl, rfl⟩))
    (fun os started H enc _ => fnExactFlood_lifted os started H enc)
end Go.Proofs.Ytjilmfkglikoeaa
