/- CommitServes holds: for every list of commitments, every state of them and every demand, the law answers true; no condition beyond the statement's own. -/
import Derived.Test.YtefkdkppipdceaaQCommitServes
import Derived.Test.YtefkdkppipdceaaRowCommitServes
namespace Go.Proofs.Ytefkdkppipdceaa.FCommitServes
open Go.RowKit Go.Proofs.YtefkdkppipdceaaW.PrintWords Go.Proofs.YtefkdkppipdceaaW.PrintMore Go.Proofs.Ytefkdkppipdceaa.Evs Go.Proofs.Ytefkdkppipdceaa.PCommitServes Go.Proofs.Ytefkdkppipdceaa.BCommitServes Go.Proofs.Ytefkdkppipdceaa.CCommitServes Go.Proofs.Ytefkdkppipdceaa.DCommitServes Go.Proofs.Ytefkdkppipdceaa.GCommitServes Go.Proofs.Ytefkdkppipdceaa.KCommitServes Go.Proofs.Ytefkdkppipdceaa.LCommitServes Go.Proofs.Ytefkdkppipdceaa.MCommitServes Go.Proofs.Ytefkdkppipdceaa.OCommitServes Go.Proofs.Ytefkdkppipdceaa.UCommitServes Go.Proofs.Ytefkdkppipdceaa.QCommitServes
set_option linter.unusedVariables false
set_option linter.unusedSectionVars false
set_option linter.unusedSimpArgs false
theorem pure : Go.Proofs.Ytefkdkppipdceaa.RCommitServes.Pure := by
  intro l onL D
  intros
  exact Evt.ex (law_f l onL D)
theorem CommitServes_holds : Rows.CommitServesSaid := Go.Proofs.Ytefkdkppipdceaa.RCommitServes.said pure
#print axioms CommitServes_holds
end Go.Proofs.Ytefkdkppipdceaa.FCommitServes
