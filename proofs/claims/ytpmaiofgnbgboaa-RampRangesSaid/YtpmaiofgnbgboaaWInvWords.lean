import Derived.Test.YtpmaiofgnbgboaaWInv
import Derived.Test.YtpmaiofgnbgboaaWFootNe
namespace Go.Proofs.YtpmaiofgnbgboaaW.PrintWords
open Go.RowKit
end Go.Proofs.YtpmaiofgnbgboaaW.PrintWords
namespace Go.Proofs.YtpmaiofgnbgboaaW.PrintLast
section
variable {ops : Array Oper} {a : Act} {o og : Oper} {g : Nat} {t : Tmp} {u : Bool}
end
end Go.Proofs.YtpmaiofgnbgboaaW.PrintLast
