import Derived.Test.YtdgjelbkogfedaaWInv
import Derived.Test.YtdgjelbkogfedaaWFootNe
namespace Go.Proofs.YtdgjelbkogfedaaW.PrintWords
open Go.RowKit
end Go.Proofs.YtdgjelbkogfedaaW.PrintWords
namespace Go.Proofs.YtdgjelbkogfedaaW.PrintLast
section
variable {ops : Array Oper} {a : Act} {o og : Oper} {g : Nat} {t : Tmp} {u : Bool}
end
end Go.Proofs.YtdgjelbkogfedaaW.PrintLast
