/- ConvexMoves holds: for every convex function, Restrict gives the part between two arguments, Turn the function turned round, and Move, where it gives one, the function moved; the statement's own bound of 60 steps, no other condition. -/
import Derived.Test.YtdgjelbkogfedaaIConvexMoves
import Derived.Test.YtdgjelbkogfedaaRowConvexMoves
namespace Go.Proofs.Ytdgjelbkogfedaa.FConvexMoves
open Go.RowKit Go.Proofs.YtdgjelbkogfedaaW.PrintWords Go.Proofs.YtdgjelbkogfedaaW.PrintMore Go.Proofs.Ytdgjelbkogfedaa.Evs Go.Proofs.Ytdgjelbkogfedaa.PConvexMoves Go.Proofs.Ytdgjelbkogfedaa.CConvexMoves Go.Proofs.Ytdgjelbkogfedaa.DConvexMoves Go.Proofs.Ytdgjelbkogfedaa.ZConvexMoves Go.Proofs.Ytdgjelbkogfedaa.XConvexMoves Go.Proofs.Ytdgjelbkogfedaa.EConvexMoves Go.Proofs.Ytdgjelbkogfedaa.GConvexMoves Go.Proofs.Ytdgjelbkogfedaa.IConvexMoves
set_option linter.unusedVariables false
set_option linter.unusedSimpArgs false
theorem pure : Go.Proofs.Ytdgjelbkogfedaa.RConvexMoves.Pure := by
  intro a v l x y x3 x4 _ _ _ _ _ _ _
  exact Evt.ex (law_f a v l x y x3 x4)
theorem ConvexMoves_holds : Rows.ConvexMovesSaid := Go.Proofs.Ytdgjelbkogfedaa.RConvexMoves.said pure
#print axioms ConvexMoves_holds
end Go.Proofs.Ytdgjelbkogfedaa.FConvexMoves
