/- HoursSpreads holds: for every total, all weights and all sizes Sums and Spread answer what the definitions say; no condition. -/
import Derived.Test.YtekpnmeikibioaaCHoursSpreads
import Derived.Test.YtekpnmeikibioaaRowHoursSpreads
namespace Go.Proofs.Ytekpnmeikibioaa.FHoursSpreads
open Go.RowKit Go.Proofs.YtekpnmeikibioaaW.PrintWords Go.Proofs.YtekpnmeikibioaaW.PrintMore Go.Proofs.Ytekpnmeikibioaa.Evs Go.Proofs.Ytekpnmeikibioaa.PHoursSpreads Go.Proofs.Ytekpnmeikibioaa.ZHoursSpreads Go.Proofs.Ytekpnmeikibioaa.XHoursSpreads Go.Proofs.Ytekpnmeikibioaa.CHoursSpreads
set_option linter.unusedVariables false
set_option linter.unusedSectionVars false
set_option linter.unusedSimpArgs false
theorem pure : Go.Proofs.Ytekpnmeikibioaa.RHoursSpreads.Pure := by
  intro t l z _ h _
  have h1 := h.1
  exact Evt.ex (law_f l t z (by omega))
theorem HoursSpreads_holds : Rows.HoursSpreadsSaid := Go.Proofs.Ytekpnmeikibioaa.RHoursSpreads.said pure
#print axioms HoursSpreads_holds
end Go.Proofs.Ytekpnmeikibioaa.FHoursSpreads
