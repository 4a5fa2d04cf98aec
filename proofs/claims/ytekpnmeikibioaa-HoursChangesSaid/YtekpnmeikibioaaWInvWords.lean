import Derived.Test.YtekpnmeikibioaaWInv
import Derived.Test.YtekpnmeikibioaaWFootNe
namespace Go.Proofs.YtekpnmeikibioaaW.PrintWords
open Go.RowKit
end Go.Proofs.YtekpnmeikibioaaW.PrintWords
namespace Go.Proofs.YtekpnmeikibioaaW.PrintLast
section
variable {ops : Array Oper} {a : Act} {o og : Oper} {g : Nat} {t : Tmp} {u : Bool}
end
end Go.Proofs.YtekpnmeikibioaaW.PrintLast
