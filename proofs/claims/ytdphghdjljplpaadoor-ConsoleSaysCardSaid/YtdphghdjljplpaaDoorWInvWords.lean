import Derived.Test.YtdphghdjljplpaaDoorWInv
import Derived.Test.YtdphghdjljplpaaDoorWFootNe
namespace Go.Proofs.YtdphghdjljplpaaDoorW.PrintWords
open Go.RowKit
end Go.Proofs.YtdphghdjljplpaaDoorW.PrintWords
namespace Go.Proofs.YtdphghdjljplpaaDoorW.PrintLast
section
variable {ops : Array Oper} {a : Act} {o og : Oper} {g : Nat} {t : Tmp} {u : Bool}
end
end Go.Proofs.YtdphghdjljplpaaDoorW.PrintLast
