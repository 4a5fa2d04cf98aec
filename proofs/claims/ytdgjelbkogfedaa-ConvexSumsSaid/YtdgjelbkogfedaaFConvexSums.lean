/- ConvexSums holds: for every two convex functions, Add has the sums of their values, and Convolve the least sums, or they say that the function is too large; the statement's own bound of 60 steps, no other condition. -/
import Derived.Test.YtdgjelbkogfedaaIConvexSums
import Derived.Test.YtdgjelbkogfedaaRowConvexSums
namespace Go.Proofs.Ytdgjelbkogfedaa.FConvexSums
open Go.RowKit Go.Proofs.YtdgjelbkogfedaaW.PrintWords Go.Proofs.YtdgjelbkogfedaaW.PrintMore Go.Proofs.Ytdgjelbkogfedaa.Evs Go.Proofs.Ytdgjelbkogfedaa.PConvexSums Go.Proofs.Ytdgjelbkogfedaa.CConvexSums Go.Proofs.Ytdgjelbkogfedaa.DConvexSums Go.Proofs.Ytdgjelbkogfedaa.ZConvexSums Go.Proofs.Ytdgjelbkogfedaa.XConvexSums Go.Proofs.Ytdgjelbkogfedaa.EConvexSums Go.Proofs.Ytdgjelbkogfedaa.GConvexSums Go.Proofs.Ytdgjelbkogfedaa.IConvexSums
set_option linter.unusedVariables false
set_option linter.unusedSimpArgs false
theorem pure : Go.Proofs.Ytdgjelbkogfedaa.RConvexSums.Pure := by
  intro a v l a' v' l' _ _ _ _ _ _
  exact Evt.ex (law_f a v l a' v' l')
theorem ConvexSums_holds : Rows.ConvexSumsSaid := Go.Proofs.Ytdgjelbkogfedaa.RConvexSums.said pure
#print axioms ConvexSums_holds
end Go.Proofs.Ytdgjelbkogfedaa.FConvexSums
