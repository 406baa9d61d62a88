import Derived.Test.YtjilmfkglikoeaaEngD
import Derived.Test.YtjilmfkglikoeaaB14Tie
import Derived.Test.YtjilmfkglikoeaaB14Fn
import Derived.Test.YtjilmfkglikoeaaFacts
/- The program's NewPort returns what the reference's returns. -/
set_option linter.unusedSimpArgs false
set_option linter.deprecated false
set_option linter.unusedSectionVars false
set_option linter.unusedVariables false
set_option maxRecDepth 100000
open Go Go.Proofs
noncomputable section
namespace Go.Sm.B14
abbrev S : List Nat := []
theorem rds : ∀ t ∈ S, RdT T S t := fun _ h => nomatch h
theorem law_call : ∀ ar, ArgsAre T Try.f14.params.toList ar → CallOk Try.prog T 14 ar (laws_FnExactNewPort_enc true) := by
  intro ar h
  rw [Try.params14] at h
  obtain ⟨rfl⟩ := h
  obtain ⟨n, hn⟩ := laws_FnExactNewPort_true  
  exact call_of (phiE_nat _ _) (sem n 40) ok mixed Try.func14 (c := laws_FnExactNewPort_code) (by kernel_rfl) (laws_FnExactNewPort_lo n) (by kernel_rfl) (by kernel_rfl) (by kernel_rfl) laws_FnExactNewPort_de ((laws_FnExactNewPort_tie n).trans hn)
end Go.Sm.B14
namespace Go.Proofs.Ytjilmfkglikoeaa
open Go.ChangeShapes Go.WideShapes Go.ChangeAt Go.RowKit Go.Sm Go.Sm.B14
theorem fnExactNewPort_lifted (os : Os) (started : os.Started) (H : Type) (enc : TypeId × Value → H) :
    ReturnsInHanded {} Try.checked os 14 .any (Rows.fnExactNewPortSpec.pre6 enc Try.prog Try.f14 Rows.fnExactNewPortRow.domain false) (Rows.fnExactNewPortSpec.post enc Try.prog Try.f14 false true false false) := by
  refine returnsInHanded_of_change (C := Try.checked) Try.own started (by kernel_rfl) Try.func14
    (ChangeSpec.witness6 (enc := enc) (C := Try.checked) false ⟨#[], #[], []⟩ 8 (by kernel_rfl) (by kernel_rfl) (by kernel_rfl) (by kernel_rfl)) ?_
  intro W base args ds gs before hval hW _ _
  exact row_of (P := Try.prog) (T := T) (s := Rows.fnExactNewPortSpec) (fn := Try.f14) (tb := 4) ok rds Try.laidOut (by rw [Try.params14]; decide)
    (by rw [Try.params14]; exact fun _ h => nomatch h) (by rw [Try.params14]; rfl) rfl (by rw [Try.params14]; intro ds h; match ds, h with | [], _ => rfl) (by rfl) Try.underlying4 hval hW rfl law_call
theorem fnExactNewPort_f1 : (Rows.fnExactNewPortRow.inPlace == Try.prog.inPlace 14) = true := by kernel_rfl
theorem fnExactNewPort_f2 : (Rows.fnExactNewPortRow.unfollowed == Try.prog.unfollowed 14) = true := by kernel_rfl
theorem fnExactNewPort_f3 : (Rows.fnExactNewPortRow.recurses == Try.prog.recurses 14) = true := by kernel_rfl
theorem fnExactNewPort_f4 : (Rows.fnExactNewPortRow.named == Try.prog.varsNamed 14) = true := by kernel_rfl
theorem fnExactNewPort_facts : joinedFacts Try.prog 14 Try.f14 Rows.fnExactNewPortSpec Rows.fnExactNewPortRow = true := by
  unfold joinedFacts
  exact and_mk (and_mk (and_mk (and_mk (and_mk (and_mk (and_mk (and_mk (and_mk (and_mk (and_mk (and_mk (and_mk (and_mk (and_mk (and_mk (and_mk (and_mk (and_mk (and_mk (and_mk (and_mk (and_mk (and_mk (and_mk (and_mk (and_mk (and_mk (and_mk (and_mk (and_mk
    (by kernel_rfl) Try.laidOut) Try.fRowed) (by kernel_rfl)) (by kernel_rfl)) (by kernel_rfl)) Try.fStops) (by kernel_rfl)) Try.fKnobs) fnExactNewPort_f1) fnExactNewPort_f2) fnExactNewPort_f3) fnExactNewPort_f4)
    (by kernel_rfl)) (by kernel_rfl)) (by kernel_rfl)) (by kernel_rfl)) (by kernel_rfl)) (by kernel_rfl)) (by kernel_rfl)) (by kernel_rfl)) (by kernel_rfl)) Try.fKeys) (by kernel_rfl)) Try.fHeard) Try.fEnter) Try.fLifted) Try.fMake) (by kernel_rfl)) (by kernel_rfl)) (by kernel_rfl)) (by kernel_rfl)
theorem fnExactNewPort_holds : Rows.FnExactNewPortSaid :=
  OpenClaim.holds_of_wide 14 Try.f14 rfl rfl rfl rfl rfl rfl rfl ⟨rfl, rfl, rfl, rfl, rfl⟩ rfl rfl rfl rfl rfl (by kernel_rfl) Try.func14 fnExactNewPort_facts
    (of_decide_eq_true (by kernel_rfl)) (by unfold Func.isWrapper; first | (rw [if_pos (by decide +kernel)]; kernel_rfl) | (rw [if_neg (by decide +kernel)]; exact ⟨rfl, rfl⟩))
    (fun os started H enc _ => fnExactNewPort_lifted os started H enc)
end Go.Proofs.Ytjilmfkglikoeaa
