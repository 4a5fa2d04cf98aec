/- Clear returns the result of the reference, unit by unit; for every list of orders. -/
import Derived.Test.YtdgjelbkogfedaaEAuctionClears
import Derived.Test.YtdgjelbkogfedaaRowAuctionClears
namespace Go.Proofs.Ytdgjelbkogfedaa.FAuctionClears
open Go.RowKit Go.Proofs.YtdgjelbkogfedaaW.PrintWords Go.Proofs.YtdgjelbkogfedaaW.PrintMore Go.Proofs.Ytdgjelbkogfedaa.Evs Go.Proofs.Ytdgjelbkogfedaa.PAuctionClears Go.Proofs.Ytdgjelbkogfedaa.BAuctionClears Go.Proofs.Ytdgjelbkogfedaa.CAuctionClears Go.Proofs.Ytdgjelbkogfedaa.DAuctionClears Go.Proofs.Ytdgjelbkogfedaa.EAuctionClears
set_option linter.unusedVariables false
set_option linter.unusedSectionVars false
set_option linter.unusedSimpArgs false
theorem pure : Go.Proofs.Ytdgjelbkogfedaa.RAuctionClears.Pure := by
  intro l
  intros
  exact Evt.ex (law_ev l)
theorem AuctionClears_holds : Rows.AuctionClearsSaid := Go.Proofs.Ytdgjelbkogfedaa.RAuctionClears.said pure
#print axioms AuctionClears_holds
end Go.Proofs.Ytdgjelbkogfedaa.FAuctionClears
