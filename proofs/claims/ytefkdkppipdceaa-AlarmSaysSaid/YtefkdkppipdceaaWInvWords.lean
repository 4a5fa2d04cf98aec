import Derived.Test.YtefkdkppipdceaaWInv
import Derived.Test.YtefkdkppipdceaaWFootNe
namespace Go.Proofs.YtefkdkppipdceaaW.PrintWords
open Go.RowKit
end Go.Proofs.YtefkdkppipdceaaW.PrintWords
namespace Go.Proofs.YtefkdkppipdceaaW.PrintLast
section
variable {ops : Array Oper} {a : Act} {o og : Oper} {g : Nat} {t : Tmp} {u : Bool}
end
end Go.Proofs.YtefkdkppipdceaaW.PrintLast
