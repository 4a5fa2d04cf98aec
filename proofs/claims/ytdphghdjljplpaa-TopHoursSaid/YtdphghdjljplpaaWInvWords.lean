import Derived.Test.YtdphghdjljplpaaWInv
import Derived.Test.YtdphghdjljplpaaWFootNe
namespace Go.Proofs.YtdphghdjljplpaaW.PrintWords
open Go.RowKit
end Go.Proofs.YtdphghdjljplpaaW.PrintWords
namespace Go.Proofs.YtdphghdjljplpaaW.PrintLast
section
variable {ops : Array Oper} {a : Act} {o og : Oper} {g : Nat} {t : Tmp} {u : Bool}
end
end Go.Proofs.YtdphghdjljplpaaW.PrintLast
