import Derived.Test.YtakllmgiobpmgaaGreatEngD
import Derived.Test.YtakllmgiobpmgaaGreatChecked
import Derived.Test.YtakllmgiobpmgaaGreatRows
/- Facts of the whole program that the row asks for. -/
section
set_option linter.unusedSimpArgs false
set_option linter.deprecated false
set_option linter.unusedSectionVars false
set_option maxRecDepth 100000
open Go Go.Proofs
namespace Go.Proofs.YtakllmgiobpmgaaGreat
theorem Tryz.own : ownKnob Tryz.prog.godebug = none := by kernel_rfl
theorem Tryz.laidOut : laidOutB Tryz.prog = true := by kernel_rfl
theorem Tryz.fRowed : mapsRowed Tryz.prog = true := by kernel_rfl
theorem Tryz.fStops : (Tryz.prog.stops == []) = true := by kernel_rfl
theorem Tryz.fKnobs : (Tryz.prog.stopKnobs == []) = true := by kernel_rfl
theorem Tryz.fKeys : (Rows.fnExactRunBillsRow.plainKeys == Tryz.prog.plainKeys) = true := by kernel_rfl
theorem Tryz.fHeard : Tryz.prog.stopsHeard = true := by kernel_rfl
theorem Tryz.fEnter : Tryz.prog.mayEnter = true := by kernel_rfl
theorem Tryz.fLifted : (Rows.fnExactRunBillsRow.lifted == Tryz.prog.liftsFinal) = true := by kernel_rfl
theorem Tryz.fMake : (Tryz.prog.make == some Rows.fnExactRunBillsRow.make) = true := by kernel_rfl
end Go.Proofs.YtakllmgiobpmgaaGreat
end
