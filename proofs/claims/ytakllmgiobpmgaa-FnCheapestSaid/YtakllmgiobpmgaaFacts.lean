import Derived.Test.YtakllmgiobpmgaaEngD
import Derived.Test.YtakllmgiobpmgaaChecked
import Derived.Test.YtakllmgiobpmgaaRows
/- Facts of the whole program that the row asks for. -/
set_option linter.unusedSimpArgs false
set_option linter.deprecated false
set_option linter.unusedSectionVars false
section
set_option maxRecDepth 100000
open Go Go.Proofs
namespace Go.Proofs.Ytakllmgiobpmgaa
theorem Try.own : ownKnob Try.prog.godebug = none := by kernel_rfl
theorem Try.laidOut : laidOutB Try.prog = true := by kernel_rfl
theorem Try.fRowed : mapsRowed Try.prog = true := by kernel_rfl
theorem Try.fStops : (Try.prog.stops == []) = true := by kernel_rfl
theorem Try.fKnobs : (Try.prog.stopKnobs == []) = true := by kernel_rfl
theorem Try.fKeys : (Rows.fnExactTravelRow.plainKeys == Try.prog.plainKeys) = true := by kernel_rfl
theorem Try.fHeard : Try.prog.stopsHeard = true := by kernel_rfl
theorem Try.fEnter : Try.prog.mayEnter = true := by kernel_rfl
theorem Try.fLifted : (Rows.fnExactTravelRow.lifted == Try.prog.liftsFinal) = true := by kernel_rfl
theorem Try.fMake : (Try.prog.make == some Rows.fnExactTravelRow.make) = true := by kernel_rfl
end Go.Proofs.Ytakllmgiobpmgaa
end
