import Derived.Test.YtielinaielicbaaWInv
import Derived.Test.YtielinaielicbaaWFootNe
namespace Go.Proofs.YtielinaielicbaaW.PrintWords
open Go.RowKit
end Go.Proofs.YtielinaielicbaaW.PrintWords
namespace Go.Proofs.YtielinaielicbaaW.PrintLast
section
variable {ops : Array Oper} {a : Act} {o og : Oper} {g : Nat} {t : Tmp} {u : Bool}
end
end Go.Proofs.YtielinaielicbaaW.PrintLast
