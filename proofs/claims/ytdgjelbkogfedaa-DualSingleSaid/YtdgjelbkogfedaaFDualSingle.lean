/- DualSingle holds: for every generator and all prices the earnings of Single are the greatest ones of all patterns of on and off, and its schedule earns them; no condition. -/
import Derived.Test.YtdgjelbkogfedaaDDualSingle
import Derived.Test.YtdgjelbkogfedaaRowDualSingle
namespace Go.Proofs.Ytdgjelbkogfedaa.FDualSingle
open Go.RowKit Go.Proofs.YtdgjelbkogfedaaW.PrintWords Go.Proofs.YtdgjelbkogfedaaW.PrintMore Go.Proofs.Ytdgjelbkogfedaa.Evs Go.Proofs.Ytdgjelbkogfedaa.PDualSingle Go.Proofs.Ytdgjelbkogfedaa.BDualSingle Go.Proofs.Ytdgjelbkogfedaa.CDualSingle Go.Proofs.Ytdgjelbkogfedaa.DDualSingle
set_option linter.unusedVariables false
set_option linter.unusedSectionVars false
set_option linter.unusedSimpArgs false
theorem pure : Go.Proofs.Ytdgjelbkogfedaa.RDualSingle.Pure := by
  intro s a b c d e f g z l o t q P _ _ _ _ _ _ _ _ _ _ _ _ _ _
  exact Evt.ex (law_f ⟨s, a, b, c, d, e, f, g, z, l, o, t, q⟩ P)
theorem DualSingle_holds : Rows.DualSingleSaid := Go.Proofs.Ytdgjelbkogfedaa.RDualSingle.said pure
#print axioms DualSingle_holds
end Go.Proofs.Ytdgjelbkogfedaa.FDualSingle
