/- RampNearest holds: for every list of limits, beginning, ramps and targets, Nearest gives the error of the reference, and where all powers are at most 40 its schedule and sum; the statement's own bounds, no other condition. -/
import Derived.Test.YtdgjelbkogfedaaIRampNearest
import Derived.Test.YtdgjelbkogfedaaRowRampNearest
namespace Go.Proofs.Ytdgjelbkogfedaa.FRampNearest
open Go.RowKit Go.Proofs.YtdgjelbkogfedaaW.PrintWords Go.Proofs.YtdgjelbkogfedaaW.PrintMore Go.Proofs.Ytdgjelbkogfedaa.Evs Go.Proofs.Ytdgjelbkogfedaa.PRampNearest Go.Proofs.Ytdgjelbkogfedaa.CRampNearest Go.Proofs.Ytdgjelbkogfedaa.ZRampNearest Go.Proofs.Ytdgjelbkogfedaa.XRampNearest Go.Proofs.Ytdgjelbkogfedaa.ERampNearest Go.Proofs.Ytdgjelbkogfedaa.GRampNearest Go.Proofs.Ytdgjelbkogfedaa.IRampNearest
set_option linter.unusedVariables false
set_option linter.unusedSectionVars false
set_option linter.unusedSimpArgs false
theorem pure : Go.Proofs.Ytdgjelbkogfedaa.RRampNearest.Pure := by
  intro l0 a1 a2 a3 l4 _ _ _ _ h
  have h1 := h.1
  exact Evt.ex (law_f a1 a2 a3 l0 l4 (by omega))
theorem RampNearest_holds : Rows.RampNearestSaid := Go.Proofs.Ytdgjelbkogfedaa.RRampNearest.said pure
#print axioms RampNearest_holds
end Go.Proofs.Ytdgjelbkogfedaa.FRampNearest
