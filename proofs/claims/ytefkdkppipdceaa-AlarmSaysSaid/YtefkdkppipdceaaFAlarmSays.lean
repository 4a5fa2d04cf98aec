/- Causes and Explain return what the reference returns, for every list of causes, of alarms and every name. -/
import Derived.Test.YtefkdkppipdceaaEAlarmSays
import Derived.Test.YtefkdkppipdceaaRowAlarmSays
namespace Go.Proofs.Ytefkdkppipdceaa.FAlarmSays
open Go.RowKit Go.Proofs.YtefkdkppipdceaaW.PrintWords Go.Proofs.YtefkdkppipdceaaW.PrintMore Go.Proofs.Ytefkdkppipdceaa.Evs Go.Proofs.Ytefkdkppipdceaa.PAlarmSays Go.Proofs.Ytefkdkppipdceaa.BAlarmSays Go.Proofs.Ytefkdkppipdceaa.CAlarmSays Go.Proofs.Ytefkdkppipdceaa.DAlarmSays Go.Proofs.Ytefkdkppipdceaa.EAlarmSays
set_option linter.unusedVariables false
set_option linter.unusedSectionVars false
set_option linter.unusedSimpArgs false
theorem pure : Go.Proofs.Ytefkdkppipdceaa.RAlarmSays.Pure := by
  intro c l s h1 h2 h3
  refine Evt.ex (law_f c l s (fun n hn => ?_) (fun n hn => ?_) (by omega) (by omega))
  · have := h1.2 (ca c n) (by unfold ca; exact getD_mem hn)
    unfold Go.Proofs.Ytefkdkppipdceaa.RAlarmSays.good81 at this
    exact ⟨by omega, by omega⟩
  · have := h2.2 (nm l n) (by unfold nm; exact getD_mem hn)
    omega
theorem AlarmSays_holds : Rows.AlarmSaysSaid := Go.Proofs.Ytefkdkppipdceaa.RAlarmSays.said pure
#print axioms AlarmSays_holds
end Go.Proofs.Ytefkdkppipdceaa.FAlarmSays
