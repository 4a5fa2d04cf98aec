/- TopStorage holds: for every storage, list of prices and further price, whoever need not be fuller at the end never loses, and one more price never costs more, wherever Best gives no error; the statement's own bounds, no other condition. -/
import Derived.Test.YtdphghdjljplpaaITopStorage
import Derived.Test.YtdphghdjljplpaaRowTopStorage
namespace Go.Proofs.Ytdphghdjljplpaa.FTopStorage
open Go.RowKit Go.Proofs.YtdphghdjljplpaaW.PrintWords Go.Proofs.YtdphghdjljplpaaW.PrintMore Go.Proofs.Ytdphghdjljplpaa.Evs Go.Proofs.Ytdphghdjljplpaa.PTopStorage Go.Proofs.Ytdphghdjljplpaa.CTopStorage Go.Proofs.Ytdphghdjljplpaa.ZTopStorage Go.Proofs.Ytdphghdjljplpaa.XTopStorage Go.Proofs.Ytdphghdjljplpaa.ETopStorage Go.Proofs.Ytdphghdjljplpaa.GTopStorage Go.Proofs.Ytdphghdjljplpaa.ITopStorage
set_option linter.unusedVariables false
set_option linter.unusedSectionVars false
set_option linter.unusedSimpArgs false
theorem pure : Go.Proofs.Ytdphghdjljplpaa.RTopStorage.Pure := by
  intro a0 a1 a2 a3 a4 l x _ _ _ _ _ h _
  have h1 := h.1
  exact Evt.ex (law_f a0 a1 a2 a3 a4 l x (by omega))
theorem TopStorage_holds : Rows.TopStorageSaid := Go.Proofs.Ytdphghdjljplpaa.RTopStorage.said pure
#print axioms TopStorage_holds
end Go.Proofs.Ytdphghdjljplpaa.FTopStorage
