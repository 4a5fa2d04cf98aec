/- RampRanges holds: for all limits, beginnings and changes Range returns the powers that schedules can have; no condition. -/
import Derived.Test.YtpmaiofgnbgboaaBRampRanges
import Derived.Test.YtpmaiofgnbgboaaRowRampRanges
namespace Go.Proofs.Ytpmaiofgnbgboaa.FRampRanges
open Go.RowKit Go.Proofs.YtpmaiofgnbgboaaW.PrintWords Go.Proofs.YtpmaiofgnbgboaaW.PrintMore Go.Proofs.Ytpmaiofgnbgboaa.Evs Go.Proofs.Ytpmaiofgnbgboaa.PRampRanges Go.Proofs.Ytpmaiofgnbgboaa.BRampRanges
set_option linter.unusedVariables false
set_option linter.unusedSectionVars false
set_option linter.unusedSimpArgs false
theorem pure : Go.Proofs.Ytpmaiofgnbgboaa.RRampRanges.Pure := by
  intro l0 a1 a2 a3 _ _ _ _
  exact Evt.ex (law_f l0 a1 a2 a3)
theorem RampRanges_holds : Rows.RampRangesSaid := Go.Proofs.Ytpmaiofgnbgboaa.RRampRanges.said pure
#print axioms RampRanges_holds
end Go.Proofs.Ytpmaiofgnbgboaa.FRampRanges
