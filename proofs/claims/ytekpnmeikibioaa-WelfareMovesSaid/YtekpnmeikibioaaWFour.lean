/- Of the print's word text of this name: what this claim's texts name. -/
import Derived.Test.YtekpnmeikibioaaWTab
/-! ### 56. Four, five, six operations that may come up next, in any order -/
namespace Go.Proofs.YtekpnmeikibioaaW.PrintLast
section
variable {P : Program} {ops : Array Oper} {Q : Exit → Act → World → Prop} {md : Region.Mode} {S : World → Prop} {ds : List Nat} {T : Bool × List (List Nat × List Nat)}
end
end Go.Proofs.YtekpnmeikibioaaW.PrintLast
