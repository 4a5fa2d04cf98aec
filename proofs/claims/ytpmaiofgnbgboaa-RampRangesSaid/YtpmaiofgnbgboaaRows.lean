/-
  No cell of these rows narrows 'for every input' (looked for: loops, veiled, ifaces, maps, wideKeys, modest, calm, conditions, laid).
  DERIVED. THE GIVEN ROWS OF THIS SEAT. 6 by the template 'for every input the law returns true; each argument reads behind the call as it read before'; 0 by the template 'total and deterministic' (their statements: YtpmaiofgnbgboaaTotals.lean).
  GIVEN WITH THE SEED: the statements are not yours to turn. If you find one false, say at which input.
  Laid BY PROGRAM, IN A SANDBOX (cutbox-rows.mjs): the forced cells as the released guide's own fill.sh prints them over the translation 161c549a99717812… (all of the seat's roots in one cut). By AI agents, Wed Nov 11 2026. No macro, syntax, notation, axiom, sorry.
-/
import Derived.Test.YtpmaiofgnbgboaaChecked
import GoSem.Claim
import GoSem.ClaimJoined
import GoSem.ClaimMapViews
import Derived.JoinedTies
import Derived.KernelRfl
namespace Go.Proofs.Ytpmaiofgnbgboaa
/- THE CELL 'sum', in the pinned program and in every row, IS THE sha256 OF THE DUMP (.gsa) THAT YtpmaiofgnbgboaaProg.lean LOADS. Nothing in Lean hashes anything: it is a label: what it is worth is what the hold of that sum in a sandbox is worth. -/
noncomputable def Try.pinned : Pinned := { name := "ytpmaiofgnbgboaa", sum := "161c549a997178120447936a14c4fe63c3aa3bcae5a82a49c272cfa55b5a2766", checked := Try.checked }
namespace Rows
def none {H : Type} : Left H := { results := [], args := [] }

/-- 'gridhalllaw4.Names': WHATEVER THE INPUT: true; the input reads as it did. -/
def namesSpec : ChangeSpec := { name := "names", fn := fun _ => fun
  | [] => { results := [.lit (.bool true)], args := [] }
  | _ => none }
def namesRow : OpenClaim := { program := "ytpmaiofgnbgboaa", sum := "161c549a997178120447936a14c4fe63c3aa3bcae5a82a49c272cfa55b5a2766", func := "gridhall/gridhalllaw4.Names", spec := "names", apart := false }
def NamesSaid : Prop := namesRow.holds Try.pinned (OpenSpec.ofChange namesSpec)

/-- ITS FALSE NEIGHBOUR: 'it returns false'. Refute it at one input. -/
def namesWrong : ChangeSpec := { name := "names", fn := fun _ => fun
  | [] => { results := [.lit (.bool false)], args := [] }
  | _ => none }
def NamesWrongFalsely : Prop := namesRow.holds Try.pinned (OpenSpec.ofChange namesWrong)

/-- 'gridhalllaw3.RampRanges': WHATEVER THE INPUT: true; the input reads as it did. -/
def rampRangesSpec : ChangeSpec := { name := "rampRanges", fn := fun _ => fun
  | [d1, d2, d3, d4] => { results := [.lit (.bool true)], args := [d1, d2, d3, d4] }
  | _ => none }
def rampRangesRow : OpenClaim := { program := "ytpmaiofgnbgboaa", sum := "161c549a997178120447936a14c4fe63c3aa3bcae5a82a49c272cfa55b5a2766", func := "gridhall/gridhalllaw3.RampRanges", spec := "rampRanges", apart := false }
def RampRangesSaid : Prop := rampRangesRow.holds Try.pinned (OpenSpec.ofChange rampRangesSpec)

/-- ITS FALSE NEIGHBOUR: 'it returns false'. Refute it at one input. -/
def rampRangesWrong : ChangeSpec := { name := "rampRanges", fn := fun _ => fun
  | [d1, d2, d3, d4] => { results := [.lit (.bool false)], args := [d1, d2, d3, d4] }
  | _ => none }
def RampRangesWrongFalsely : Prop := rampRangesRow.holds Try.pinned (OpenSpec.ofChange rampRangesWrong)

/-- 'gridhalllaw4.GovernorSays': WHATEVER THE INPUT: true; the input reads as it did. -/
def governorSaysSpec : ChangeSpec := { name := "governorSays", fn := fun _ => fun
  | [d1, d2, d3] => { results := [.lit (.bool true)], args := [d1, d2, d3] }
  | _ => none }
def governorSaysRow : OpenClaim := { program := "ytpmaiofgnbgboaa", sum := "161c549a997178120447936a14c4fe63c3aa3bcae5a82a49c272cfa55b5a2766", func := "gridhall/gridhalllaw4.GovernorSays", spec := "governorSays", apart := false }
def GovernorSaysSaid : Prop := governorSaysRow.holds Try.pinned (OpenSpec.ofChange governorSaysSpec)

/-- ITS FALSE NEIGHBOUR: 'it returns false'. Refute it at one input. -/
def governorSaysWrong : ChangeSpec := { name := "governorSays", fn := fun _ => fun
  | [d1, d2, d3] => { results := [.lit (.bool false)], args := [d1, d2, d3] }
  | _ => none }
def GovernorSaysWrongFalsely : Prop := governorSaysRow.holds Try.pinned (OpenSpec.ofChange governorSaysWrong)

/-- 'gridhalllaw2.CurveTimes': WHATEVER THE INPUT: true; the input reads as it did. -/
def curveTimesSpec : ChangeSpec := { name := "curveTimes", fn := fun _ => fun
  | [d1, d2, d3] => { results := [.lit (.bool true)], args := [d1, d2, d3] }
  | _ => none }
def curveTimesRow : OpenClaim := { program := "ytpmaiofgnbgboaa", sum := "161c549a997178120447936a14c4fe63c3aa3bcae5a82a49c272cfa55b5a2766", func := "gridhall/gridhalllaw2.CurveTimes", spec := "curveTimes", unfollowed := true, recurses := true, apart := false }
def CurveTimesSaid : Prop := curveTimesRow.holds Try.pinned (OpenSpec.ofChange curveTimesSpec)

/-- ITS FALSE NEIGHBOUR: 'it returns false'. Refute it at one input. -/
def curveTimesWrong : ChangeSpec := { name := "curveTimes", fn := fun _ => fun
  | [d1, d2, d3] => { results := [.lit (.bool false)], args := [d1, d2, d3] }
  | _ => none }
def CurveTimesWrongFalsely : Prop := curveTimesRow.holds Try.pinned (OpenSpec.ofChange curveTimesWrong)

/-- 'gridhalllaw3.ConvexValues': WHATEVER THE INPUT: true; the input reads as it did. -/
def convexValuesSpec : ChangeSpec := { name := "convexValues", fn := fun _ => fun
  | [d1, d2, d3] => { results := [.lit (.bool true)], args := [d1, d2, d3] }
  | _ => none }
def convexValuesRow : OpenClaim := { program := "ytpmaiofgnbgboaa", sum := "161c549a997178120447936a14c4fe63c3aa3bcae5a82a49c272cfa55b5a2766", func := "gridhall/gridhalllaw3.ConvexValues", spec := "convexValues", apart := false }
def ConvexValuesSaid : Prop := convexValuesRow.holds Try.pinned (OpenSpec.ofChange convexValuesSpec)

/-- ITS FALSE NEIGHBOUR: 'it returns false'. Refute it at one input. -/
def convexValuesWrong : ChangeSpec := { name := "convexValues", fn := fun _ => fun
  | [d1, d2, d3] => { results := [.lit (.bool false)], args := [d1, d2, d3] }
  | _ => none }
def ConvexValuesWrongFalsely : Prop := convexValuesRow.holds Try.pinned (OpenSpec.ofChange convexValuesWrong)

/-- 'gridhalllaw3.LedgerSettles': WHATEVER THE INPUT: true; the input reads as it did. -/
def ledgerSettlesSpec : ChangeSpec := { name := "ledgerSettles", fn := fun _ => fun
  | [d1, d2] => { results := [.lit (.bool true)], args := [d1, d2] }
  | _ => none }
def ledgerSettlesRow : OpenClaim := { program := "ytpmaiofgnbgboaa", sum := "161c549a997178120447936a14c4fe63c3aa3bcae5a82a49c272cfa55b5a2766", func := "gridhall/gridhalllaw3.LedgerSettles", spec := "ledgerSettles", apart := false }
def LedgerSettlesSaid : Prop := ledgerSettlesRow.holds Try.pinned (OpenSpec.ofChange ledgerSettlesSpec)

/-- ITS FALSE NEIGHBOUR: 'it returns false'. Refute it at one input. -/
def ledgerSettlesWrong : ChangeSpec := { name := "ledgerSettles", fn := fun _ => fun
  | [d1, d2] => { results := [.lit (.bool false)], args := [d1, d2] }
  | _ => none }
def LedgerSettlesWrongFalsely : Prop := ledgerSettlesRow.holds Try.pinned (OpenSpec.ofChange ledgerSettlesWrong)

/- THE SECOND FORM. 'bulk': how many values and letters a reading holds, each counted each time it is reached (what is shared counts as often as it is met; a slice's spare places count too). A statement '..UptoSaid' is the law's where the arguments, and the package variables that the reading takes, are together of bulk at most 1048576: NARROWER than '..Said'. Prove '..Said' where nothing that the law and all that it calls make is longer than what came in: it says more and counts as full. Else prove '..UptoSaid'. A law counts once. -/
mutual
def uptoBulk {H : Type} : DataW H → Nat
  | .lit (.string bytes) => bytes.length + 1
  | .lit _ => 1
  | .nil => 1
  | .ptr d => uptoBulk d + 1
  | .slice elems spare => uptoBulkAll elems + uptoBulkAll spare + 1
  | .agg parts => uptoBulkAll parts + 1
  | .iface _ d => uptoBulk d + 1
  | .map entries => uptoBulkEntries entries + 1
  | .held _ => 1
def uptoBulkAll {H : Type} : List (DataW H) → Nat
  | [] => 0
  | d :: r => uptoBulk d + uptoBulkAll r
def uptoBulkEntries {H : Type} : List (Lit × DataW H) → Nat
  | [] => 0
  | x :: r => uptoBulkEntry x + uptoBulkEntries r
def uptoBulkEntry {H : Type} : Lit × DataW H → Nat
  | (.string bytes, d) => bytes.length + uptoBulk d + 1
  | (_, d) => uptoBulk d + 1
 end
def uptoSmall : (H : Type) → List (DataW H) → Bool := fun _ ds => decide (uptoBulkAll ds ≤ 1048576)
def OpenSpec.upto (s : _root_.Go.ChangeSpec) : _root_.Go.OpenSpec := { _root_.Go.OpenSpec.ofChange s with cond := some uptoSmall }

/-- 'gridhalllaw4.Names', WHERE WHAT IT READS IS OF BULK AT MOST 1048576: true; the input reads as it did. -/
def namesUptoRow : OpenClaim := { program := "ytpmaiofgnbgboaa", sum := "161c549a997178120447936a14c4fe63c3aa3bcae5a82a49c272cfa55b5a2766", func := "gridhall/gridhalllaw4.Names", spec := "names", apart := false, narrowed := true }
def NamesUptoSaid : Prop := namesUptoRow.holds Try.pinned (OpenSpec.upto namesSpec)

/-- 'gridhalllaw3.RampRanges', WHERE WHAT IT READS IS OF BULK AT MOST 1048576: true; the input reads as it did. -/
def rampRangesUptoRow : OpenClaim := { program := "ytpmaiofgnbgboaa", sum := "161c549a997178120447936a14c4fe63c3aa3bcae5a82a49c272cfa55b5a2766", func := "gridhall/gridhalllaw3.RampRanges", spec := "rampRanges", apart := false, narrowed := true }
def RampRangesUptoSaid : Prop := rampRangesUptoRow.holds Try.pinned (OpenSpec.upto rampRangesSpec)

/-- 'gridhalllaw4.GovernorSays', WHERE WHAT IT READS IS OF BULK AT MOST 1048576: true; the input reads as it did. -/
def governorSaysUptoRow : OpenClaim := { program := "ytpmaiofgnbgboaa", sum := "161c549a997178120447936a14c4fe63c3aa3bcae5a82a49c272cfa55b5a2766", func := "gridhall/gridhalllaw4.GovernorSays", spec := "governorSays", apart := false, narrowed := true }
def GovernorSaysUptoSaid : Prop := governorSaysUptoRow.holds Try.pinned (OpenSpec.upto governorSaysSpec)

/-- 'gridhalllaw2.CurveTimes', WHERE WHAT IT READS IS OF BULK AT MOST 1048576: true; the input reads as it did. -/
def curveTimesUptoRow : OpenClaim := { program := "ytpmaiofgnbgboaa", sum := "161c549a997178120447936a14c4fe63c3aa3bcae5a82a49c272cfa55b5a2766", func := "gridhall/gridhalllaw2.CurveTimes", spec := "curveTimes", unfollowed := true, recurses := true, apart := false, narrowed := true }
def CurveTimesUptoSaid : Prop := curveTimesUptoRow.holds Try.pinned (OpenSpec.upto curveTimesSpec)

/-- 'gridhalllaw3.ConvexValues', WHERE WHAT IT READS IS OF BULK AT MOST 1048576: true; the input reads as it did. -/
def convexValuesUptoRow : OpenClaim := { program := "ytpmaiofgnbgboaa", sum := "161c549a997178120447936a14c4fe63c3aa3bcae5a82a49c272cfa55b5a2766", func := "gridhall/gridhalllaw3.ConvexValues", spec := "convexValues", apart := false, narrowed := true }
def ConvexValuesUptoSaid : Prop := convexValuesUptoRow.holds Try.pinned (OpenSpec.upto convexValuesSpec)

/-- 'gridhalllaw3.LedgerSettles', WHERE WHAT IT READS IS OF BULK AT MOST 1048576: true; the input reads as it did. -/
def ledgerSettlesUptoRow : OpenClaim := { program := "ytpmaiofgnbgboaa", sum := "161c549a997178120447936a14c4fe63c3aa3bcae5a82a49c272cfa55b5a2766", func := "gridhall/gridhalllaw3.LedgerSettles", spec := "ledgerSettles", apart := false, narrowed := true }
def LedgerSettlesUptoSaid : Prop := ledgerSettlesUptoRow.holds Try.pinned (OpenSpec.upto ledgerSettlesSpec)

end Rows
end Go.Proofs.Ytpmaiofgnbgboaa
