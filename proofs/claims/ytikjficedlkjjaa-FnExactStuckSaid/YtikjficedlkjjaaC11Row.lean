import Derived.Test.YtikjficedlkjjaaEngD
import Derived.Test.YtikjficedlkjjaaC11Tie
import Derived.Test.YtikjficedlkjjaaC11Fn
import Derived.Test.YtikjficedlkjjaaFacts
/- Stuck: the carts that are away from their goals and do not move are told alike by the written-out way and by the built one, for every floor and all carts. -/
set_option linter.unusedSimpArgs false
set_option linter.deprecated false
set_option linter.unusedSectionVars false
set_option linter.unusedVariables false
set_option maxRecDepth 100000
open Go Go.Proofs
noncomputable section
namespace Go.Sm.C11
abbrev S : List Nat := [86, 3, 41, 87, 157]
theorem wf_3 (x : Int) (h : ∀ d ∈ T.dget 3 x, WfD T d) : rng (-9223372036854775808) 9223372036854775807 x := by
  have h : ∀ d ∈ ([.int .i64 x] : List (D T.U)), WfD T d := h
  exact (WfD.i (h _ (.head _)))
theorem wf_86 (x : SFloor) (h : ∀ d ∈ T.dget 86 x, WfD T d) : wfSFloor x := by
  have h : ∀ d ∈ ([.int .i64 x.Wide, .int .i64 x.High, .arr 3 x.Ways] : List (D T.U)), WfD T d := h
  exact ⟨(WfD.i (h _ (.head _))), (WfD.i (h _ (.tail _ (.head _)))), ⟨(WfD.a (h _ (.tail _ (.tail _ (.head _))))).1, fun y hy => wf_3 y ((WfD.a (h _ (.tail _ (.tail _ (.head _))))).2 y hy)⟩⟩
theorem wf_157 (x : SCart) (h : ∀ d ∈ T.dget 157 x, WfD T d) : wfSCart x := by
  have h : ∀ d ∈ ([.int .i64 x.At, .int .i64 x.Goal] : List (D T.U)), WfD T d := h
  exact ⟨(WfD.i (h _ (.head _))), (WfD.i (h _ (.tail _ (.head _))))⟩
theorem wf_87 (x : List SCart) (h : ∀ d ∈ T.dget 87 x, WfD T d) : (x.length ≤ 9223372036854775807 ∧ ∀ y ∈ x, wfSCart y) := by
  have h : ∀ d ∈ ([.arr 157 x] : List (D T.U)), WfD T d := h
  exact ⟨(WfD.a (h _ (.head _))).1, fun y hy => wf_157 y ((WfD.a (h _ (.head _))).2 y hy)⟩
theorem rd_86 : RdT T S 86 := by
  have hm : ∀ ds, SameL (T.dget 86 (T.dflt 86)) ds → ∃ x, T.dset 86 ds = some x := by
    intro ds h
    obtain ⟨c0, r0, rfl, ⟨b0, rfl⟩, h⟩ := h
    obtain ⟨c1, r1, rfl, ⟨b1, rfl⟩, h⟩ := h
    obtain ⟨c2, r2, rfl, ⟨b2, rfl⟩, h⟩ := h
    cases h
    exact some_of (by kernel_rfl)
  exact .ofStruct (fs := [(0, 3), (1, 3), (2, 41)]) (by kernel_rfl) hm (by kernel_rfl) (by kernel_rfl) (by kernel_rfl) (by decide)
theorem rd_3 : RdT T S 3 := by
  have hm : ∀ ds, SameL (T.dget 3 (T.dflt 3)) ds → ∃ x, T.dset 3 ds = some x := by
    intro ds h
    obtain ⟨c0, r0, rfl, ⟨b0, rfl⟩, h⟩ := h
    cases h
    exact some_of (by kernel_rfl)
  exact .ofInt (by kernel_rfl) hm rfl ⟨_, rfl⟩
theorem rd_41 : RdT T S 41 := by
  have hm : ∀ ds, SameL (T.dget 41 (T.dflt 41)) ds → ∃ x, T.dset 41 ds = some x := by
    intro ds h
    obtain ⟨c0, r0, rfl, ⟨b0, rfl⟩, h⟩ := h
    cases h
    exact some_of (by kernel_rfl)
  exact .ofSlice (e := 3) (by kernel_rfl) hm rfl ⟨_, rfl⟩ (by decide)
theorem rd_87 : RdT T S 87 := by
  have hm : ∀ ds, SameL (T.dget 87 (T.dflt 87)) ds → ∃ x, T.dset 87 ds = some x := by
    intro ds h
    obtain ⟨c0, r0, rfl, ⟨b0, rfl⟩, h⟩ := h
    cases h
    exact some_of (by kernel_rfl)
  exact .ofSlice (e := 157) (by kernel_rfl) hm rfl ⟨_, rfl⟩ (by decide)
theorem rd_157 : RdT T S 157 := by
  have hm : ∀ ds, SameL (T.dget 157 (T.dflt 157)) ds → ∃ x, T.dset 157 ds = some x := by
    intro ds h
    obtain ⟨c0, r0, rfl, ⟨b0, rfl⟩, h⟩ := h
    obtain ⟨c1, r1, rfl, ⟨b1, rfl⟩, h⟩ := h
    cases h
    exact some_of (by kernel_rfl)
  exact .ofStruct (fs := [(0, 3), (1, 3)]) (by kernel_rfl) hm (by kernel_rfl) (by kernel_rfl) (by kernel_rfl) (by decide)
theorem rds : ∀ t ∈ S, RdT T S t := List.forall_mem_cons.2 ⟨rd_86, List.forall_mem_cons.2 ⟨rd_3, List.forall_mem_cons.2 ⟨rd_41, List.forall_mem_cons.2 ⟨rd_87, List.forall_mem_cons.2 ⟨rd_157, fun _ h => nomatch h⟩⟩⟩⟩⟩
theorem law_call : ∀ ar, ArgsAre T Try.f11.params.toList ar → CallOk Try.prog T 11 ar (laws_FnExactStuck_enc true) := by
  intro ar h
  rw [Try.params11] at h
  obtain ⟨y0, r0, rfl, w0, y1, r1, rfl, w1, rfl⟩ := h
  obtain ⟨n, hn⟩ := laws_FnExactStuck_true y0 y1 (wf_86 y0 w0) (wf_87 y1 w1)
  exact call_of (phiE_nat _ _) (sem n 50) ok mixed Try.func11 (c := laws_FnExactStuck_code) (by kernel_rfl) (laws_FnExactStuck_lo n) (by kernel_rfl) (by kernel_rfl) (by kernel_rfl) laws_FnExactStuck_de ((laws_FnExactStuck_tie n y0 y1).trans hn)
end Go.Sm.C11
namespace Go.Proofs.Ytikjficedlkjjaa
open Go.ChangeShapes Go.WideShapes Go.ChangeAt Go.RowKit Go.Sm Go.Sm.C11
theorem fnExactStuck_lifted (os : Os) (started : os.Started) (H : Type) (enc : TypeId × Value → H) :
    ReturnsInHanded {} Try.checked os 11 .any (Rows.fnExactStuckSpec.pre6 enc Try.prog Try.f11 Rows.fnExactStuckRow.domain false) (Rows.fnExactStuckSpec.post enc Try.prog Try.f11 false true false false) := by
  refine returnsInHanded_of_change (C := Try.checked) Try.own started (by kernel_rfl) Try.func11
    (ChangeSpec.witness6 (enc := enc) (C := Try.checked) false ⟨#[], #[.agg #[.int .i64 0, .int .i64 0, .slice none 0 0], .slice none 0 0], []⟩ 8 (by kernel_rfl) (by kernel_rfl) (by kernel_rfl) (by kernel_rfl)) ?_
  intro W base args ds gs before hval hW _ _
  exact row_of (P := Try.prog) (T := T) (s := Rows.fnExactStuckSpec) (fn := Try.f11) (tb := 4) ok rds Try.laidOut (by rw [Try.params11]; decide)
    (by rw [Try.params11]; exact List.forall_mem_cons.2 ⟨⟨by kernel_rfl, of_decide_eq_true (by kernel_rfl)⟩, List.forall_mem_cons.2 ⟨⟨by kernel_rfl, of_decide_eq_true (by kernel_rfl)⟩, fun _ h => nomatch h⟩⟩) (by rw [Try.params11]; rfl) rfl (by rw [Try.params11]; intro ds h; match ds, h with | [d0, d1], _ => rfl) (by rfl) Try.underlying4 hval hW rfl law_call
theorem fnExactStuck_f1 : (Rows.fnExactStuckRow.inPlace == Try.prog.inPlace 11) = true := by kernel_rfl
theorem fnExactStuck_f2 : (Rows.fnExactStuckRow.unfollowed == Try.prog.unfollowed 11) = true := by kernel_rfl
theorem fnExactStuck_f3 : (Rows.fnExactStuckRow.recurses == Try.prog.recurses 11) = true := by kernel_rfl
theorem fnExactStuck_f4 : (Rows.fnExactStuckRow.named == Try.prog.varsNamed 11) = true := by kernel_rfl
theorem fnExactStuck_facts : joinedFacts Try.prog 11 Try.f11 Rows.fnExactStuckSpec Rows.fnExactStuckRow = true := by
  unfold joinedFacts
  exact and_mk (and_mk (and_mk (and_mk (and_mk (and_mk (and_mk (and_mk (and_mk (and_mk (and_mk (and_mk (and_mk (and_mk (and_mk (and_mk (and_mk (and_mk (and_mk (and_mk (and_mk (and_mk (and_mk (and_mk (and_mk (and_mk (and_mk (and_mk (and_mk (and_mk (and_mk
    (by kernel_rfl) Try.laidOut) Try.fRowed) (by kernel_rfl)) (by kernel_rfl)) (by kernel_rfl)) Try.fStops) (by kernel_rfl)) Try.fKnobs) fnExactStuck_f1) fnExactStuck_f2) fnExactStuck_f3) fnExactStuck_f4)
    (by kernel_rfl)) (by kernel_rfl)) (by kernel_rfl)) (by kernel_rfl)) (by kernel_rfl)) (by kernel_rfl)) (by kernel_rfl)) (by kernel_rfl)) (by kernel_rfl)) Try.fKeys) (by kernel_rfl)) Try.fHeard) Try.fEnter) Try.fLifted) Try.fMake) (by kernel_rfl)) (by kernel_rfl)) (by kernel_rfl)) (by kernel_rfl)
theorem fnExactStuck_holds : Rows.FnExactStuckSaid :=
  OpenClaim.holds_of_wide 11 Try.f11 rfl rfl rfl rfl rfl rfl rfl ⟨rfl, rfl, rfl, rfl, rfl⟩ rfl rfl rfl rfl rfl (by kernel_rfl) Try.func11 fnExactStuck_facts
    (of_decide_eq_true (by kernel_rfl)) (by unfold Func.isWrapper; first | (rw [if_pos (by decide +kernel)]; kernel_rfl) | (rw [if_neg (by decide +kernel)]; exact ⟨rfl, rfl⟩))
    (fun os started H enc _ => fnExactStuck_lifted os started H enc)
end Go.Proofs.Ytikjficedlkjjaa
