import Derived.Test.YtojjoinjabogbaaEngC
import Derived.Test.YtojjoinjabogbaaA7Tie
import Derived.Test.YtojjoinjabogbaaA7Fn
import Derived.Test.YtojjoinjabogbaaFacts
/- Proved here: laws.FnExactPumpAll returns true for every list of tanks and every list of pumps, and leaves its arguments as they were; no conditions. -/
set_option linter.unusedSimpArgs false
set_option linter.deprecated false
set_option linter.unusedSectionVars false
set_option linter.unusedVariables false
set_option maxRecDepth 100000
open Go Go.Proofs
noncomputable section
namespace Go.Sm.A7
abbrev S : List Nat := [67, 189, 3, 68, 191]
theorem wf_189 (x : SFuel) (h : ∀ d ∈ T.dget 189 x, WfD T d) : wfSFuel x := by
  have h : ∀ d ∈ ([.int .i64 x.Has, .int .i64 x.Most] : List (D T.U)), WfD T d := h
  exact ⟨(WfD.i (h _ (.head _))), (WfD.i (h _ (.tail _ (.head _))))⟩
theorem wf_67 (x : List SFuel) (h : ∀ d ∈ T.dget 67 x, WfD T d) : (x.length ≤ 9223372036854775807 ∧ ∀ y ∈ x, wfSFuel y) := by
  have h : ∀ d ∈ ([.arr 189 x] : List (D T.U)), WfD T d := h
  exact ⟨(WfD.a (h _ (.head _))).1, fun y hy => wf_189 y ((WfD.a (h _ (.head _))).2 y hy)⟩
theorem wf_191 (x : SPump) (h : ∀ d ∈ T.dget 191 x, WfD T d) : wfSPump x := by
  have h : ∀ d ∈ ([.int .i64 x.From, .int .i64 x.To, .int .i64 x.Many] : List (D T.U)), WfD T d := h
  exact ⟨(WfD.i (h _ (.head _))), (WfD.i (h _ (.tail _ (.head _)))), (WfD.i (h _ (.tail _ (.tail _ (.head _)))))⟩
theorem wf_68 (x : List SPump) (h : ∀ d ∈ T.dget 68 x, WfD T d) : (x.length ≤ 9223372036854775807 ∧ ∀ y ∈ x, wfSPump y) := by
  have h : ∀ d ∈ ([.arr 191 x] : List (D T.U)), WfD T d := h
  exact ⟨(WfD.a (h _ (.head _))).1, fun y hy => wf_191 y ((WfD.a (h _ (.head _))).2 y hy)⟩
theorem rd_67 : RdT T S 67 := by
  have hm : ∀ ds, SameL (T.dget 67 (T.dflt 67)) ds → ∃ x, T.dset 67 ds = some x := by
    intro ds h
    obtain ⟨c0, r0, rfl, ⟨b0, rfl⟩, h⟩ := h
    cases h
    exact some_of (by kernel_rfl)
  exact .ofSlice (e := 189) (by kernel_rfl) hm rfl ⟨_, rfl⟩ (by decide)
theorem rd_189 : RdT T S 189 := by
  have hm : ∀ ds, SameL (T.dget 189 (T.dflt 189)) ds → ∃ x, T.dset 189 ds = some x := by
    intro ds h
    obtain ⟨c0, r0, rfl, ⟨b0, rfl⟩, h⟩ := h
    obtain ⟨c1, r1, rfl, ⟨b1, rfl⟩, h⟩ := h
    cases h
    exact some_of (by kernel_rfl)
  exact .ofStruct (fs := [(0, 3), (1, 3)]) (by kernel_rfl) hm (by kernel_rfl) (by kernel_rfl) (by kernel_rfl) (by decide)
theorem rd_3 : RdT T S 3 := by
  have hm : ∀ ds, SameL (T.dget 3 (T.dflt 3)) ds → ∃ x, T.dset 3 ds = some x := by
    intro ds h
    obtain ⟨c0, r0, rfl, ⟨b0, rfl⟩, h⟩ := h
    cases h
    exact some_of (by kernel_rfl)
  exact .ofInt (by kernel_rfl) hm rfl ⟨_, rfl⟩
theorem rd_68 : RdT T S 68 := by
  have hm : ∀ ds, SameL (T.dget 68 (T.dflt 68)) ds → ∃ x, T.dset 68 ds = some x := by
    intro ds h
    obtain ⟨c0, r0, rfl, ⟨b0, rfl⟩, h⟩ := h
    cases h
    exact some_of (by kernel_rfl)
  exact .ofSlice (e := 191) (by kernel_rfl) hm rfl ⟨_, rfl⟩ (by decide)
theorem rd_191 : RdT T S 191 := by
  have hm : ∀ ds, SameL (T.dget 191 (T.dflt 191)) ds → ∃ x, T.dset 191 ds = some x := by
    intro ds h
    obtain ⟨c0, r0, rfl, ⟨b0, rfl⟩, h⟩ := h
    obtain ⟨c1, r1, rfl, ⟨b1, rfl⟩, h⟩ := h
    obtain ⟨c2, r2, rfl, ⟨b2, rfl⟩, h⟩ := h
    cases h
    exact some_of (by kernel_rfl)
  exact .ofStruct (fs := [(0, 3), (1, 3), (2, 3)]) (by kernel_rfl) hm (by kernel_rfl) (by kernel_rfl) (by kernel_rfl) (by decide)
theorem rds : ∀ t ∈ S, RdT T S t := List.forall_mem_cons.2 ⟨rd_67, List.forall_mem_cons.2 ⟨rd_189, List.forall_mem_cons.2 ⟨rd_3, List.forall_mem_cons.2 ⟨rd_68, List.forall_mem_cons.2 ⟨rd_191, fun _ h => nomatch h⟩⟩⟩⟩⟩
theorem law_call : ∀ ar, ArgsAre T Try.f7.params.toList ar → CallOk Try.prog T 7 ar (laws_FnExactPumpAll_enc true) := by
  intro ar h
  rw [Try.params7] at h
  obtain ⟨y0, r0, rfl, w0, y1, r1, rfl, w1, rfl⟩ := h
  obtain ⟨n, hn⟩ := laws_FnExactPumpAll_true y0 y1 (wf_67 y0 w0) (wf_68 y1 w1)
  exact call_of (phiE_nat _ _) (sem n 29) ok mixed Try.func7 (c := laws_FnExactPumpAll_code) (by kernel_rfl) (laws_FnExactPumpAll_lo n) (by kernel_rfl) (by kernel_rfl) (by kernel_rfl) laws_FnExactPumpAll_de ((laws_FnExactPumpAll_tie n y0 y1).trans hn)
end Go.Sm.A7
namespace Go.Proofs.Ytojjoinjabogbaa
open Go.ChangeShapes Go.WideShapes Go.ChangeAt Go.RowKit Go.Sm Go.Sm.A7
theorem fnExactPumpAll_lifted (os : Os) (started : os.Started) (H : Type) (enc : TypeId × Value → H) :
    ReturnsInHanded {} Try.checked os 7 .any (Rows.fnExactPumpAllSpec.pre6 enc Try.prog Try.f7 Rows.fnExactPumpAllRow.domain false) (Rows.fnExactPumpAllSpec.post enc Try.prog Try.f7 false true false false) := by
  refine returnsInHanded_of_change (C := Try.checked) Try.own started (by kernel_rfl) Try.func7
    (ChangeSpec.witness6 (enc := enc) (C := Try.checked) false ⟨#[], #[.slice none 0 0, .slice none 0 0], []⟩ 8 (by kernel_rfl) (by kernel_rfl) (by kernel_rfl) (by kernel_rfl)) ?_
  intro W base args ds gs before hval hW _ _
  exact row_of (P := Try.prog) (T := T) (s := Rows.fnExactPumpAllSpec) (fn := Try.f7) (tb := 4) ok rds Try.laidOut (by rw [Try.params7]; decide)
    (by rw [Try.params7]; exact List.forall_mem_cons.2 ⟨⟨by kernel_rfl, of_decide_eq_true (by kernel_rfl)⟩, List.forall_mem_cons.2 ⟨⟨by kernel_rfl, of_decide_eq_true (by kernel_rfl)⟩, fun _ h => nomatch h⟩⟩) (by rw [Try.params7]; rfl) rfl (by rw [Try.params7]; intro ds h; match ds, h with | [d0, d1], _ => rfl) (by rfl) Try.underlying4 hval hW rfl law_call
theorem fnExactPumpAll_f1 : (Rows.fnExactPumpAllRow.inPlace == Try.prog.inPlace 7) = true := by kernel_rfl
theorem fnExactPumpAll_f2 : (Rows.fnExactPumpAllRow.unfollowed == Try.prog.unfollowed 7) = true := by kernel_rfl
theorem fnExactPumpAll_f3 : (Rows.fnExactPumpAllRow.recurses == Try.prog.recurses 7) = true := by kernel_rfl
theorem fnExactPumpAll_f4 : (Rows.fnExactPumpAllRow.named == Try.prog.varsNamed 7) = true := by kernel_rfl
theorem fnExactPumpAll_facts : joinedFacts Try.prog 7 Try.f7 Rows.fnExactPumpAllSpec Rows.fnExactPumpAllRow = true := by
  unfold joinedFacts
  exact and_mk (and_mk (and_mk (and_mk (and_mk (and_mk (and_mk (and_mk (and_mk (and_mk (and_mk (and_mk (and_mk (and_mk (and_mk (and_mk (and_mk (and_mk (and_mk (and_mk (and_mk (and_mk (and_mk (and_mk (and_mk (and_mk (and_mk (and_mk (and_mk (and_mk (and_mk
    (by kernel_rfl) Try.laidOut) Try.fRowed) (by kernel_rfl)) (by kernel_rfl)) (by kernel_rfl)) Try.fStops) (by kernel_rfl)) Try.fKnobs) fnExactPumpAll_f1) fnExactPumpAll_f2) fnExactPumpAll_f3) fnExactPumpAll_f4)
    (by kernel_rfl)) (by kernel_rfl)) (by kernel_rfl)) (by kernel_rfl)) (by kernel_rfl)) (by kernel_rfl)) (by kernel_rfl)) (by kernel_rfl)) (by kernel_rfl)) Try.fKeys) (by kernel_rfl)) Try.fHeard) Try.fEnter) Try.fLifted) Try.fMake) (by kernel_rfl)) (by kernel_rfl)) (by kernel_rfl)) (by kernel_rfl)
theorem fnExactPumpAll_holds : Rows.FnExactPumpAllSaid :=
  OpenClaim.holds_of_wide 7 Try.f7 rfl rfl rfl rfl rfl rfl rfl ⟨rfl, rfl, rfl, rfl, rfl⟩ rfl rfl rfl rfl rfl (by kernel_rfl) Try.func7 fnExactPumpAll_facts
    (of_decide_eq_true (by kernel_rfl)) (by unfold Func.isWrapper; first | (rw [if_pos (by decide +kernel)]; kernel_rfl) | (rw [if_neg (by decide +kernel)]; exact ⟨rfl, rfl⟩))
    (fun os started H enc _ => fnExactPumpAll_lifted os started H enc)
end Go.Proofs.Ytojjoinjabogbaa
