/-
  No cell of these rows narrows 'for every input' (looked for: loops, veiled, ifaces, maps, wideKeys, modest, calm, conditions, laid).
  DERIVED. THE GIVEN ROWS OF THIS SEAT. 6 by the template 'for every input the law returns true; each argument reads behind the call as it read before'; 0 by the template 'total and deterministic' (their statements: YtdgjelbkogfedaaTotals.lean).
  GIVEN WITH THE SEED: the statements are not yours to turn. If you find one false, say at which input.
  Laid BY PROGRAM, IN A SANDBOX (cutbox-rows.mjs): the forced cells as the released guide's own fill.sh prints them over the translation 125b83debe3895dd… (all of the seat's roots in one cut). By AI agents, Wed Nov 11 2026. No macro, syntax, notation, axiom, sorry.
-/
import Derived.Test.YtdgjelbkogfedaaChecked
import GoSem.Claim
import GoSem.ClaimJoined
import GoSem.ClaimMapViews
import Derived.JoinedTies
import Derived.KernelRfl
namespace Go.Proofs.Ytdgjelbkogfedaa
/- THE CELL 'sum', in the pinned program and in every row, IS THE sha256 OF THE DUMP (.gsa) THAT YtdgjelbkogfedaaProg.lean LOADS. Nothing in Lean hashes anything: it is a label: what it is worth is what the hold of that sum in a sandbox is worth. -/
noncomputable def Try.pinned : Pinned := { name := "ytdgjelbkogfedaa", sum := "125b83debe3895dd42ea293fcfb6daea96970ea4bc133bbddc6148c3ed7e72b9", checked := Try.checked }
namespace Rows
def none {H : Type} : Left H := { results := [], args := [] }

/-- 'gridhalllaw3.DualSingle': WHATEVER THE INPUT: true; the input reads as it did. -/
def dualSingleSpec : ChangeSpec := { name := "dualSingle", fn := fun _ => fun
  | [d1, d2] => { results := [.lit (.bool true)], args := [d1, d2] }
  | _ => none }
def dualSingleRow : OpenClaim := { program := "ytdgjelbkogfedaa", sum := "125b83debe3895dd42ea293fcfb6daea96970ea4bc133bbddc6148c3ed7e72b9", func := "gridhall/gridhalllaw3.DualSingle", spec := "dualSingle", apart := false }
def DualSingleSaid : Prop := dualSingleRow.holds Try.pinned (OpenSpec.ofChange dualSingleSpec)

/-- ITS FALSE NEIGHBOUR: 'it returns false'. Refute it at one input. -/
def dualSingleWrong : ChangeSpec := { name := "dualSingle", fn := fun _ => fun
  | [d1, d2] => { results := [.lit (.bool false)], args := [d1, d2] }
  | _ => none }
def DualSingleWrongFalsely : Prop := dualSingleRow.holds Try.pinned (OpenSpec.ofChange dualSingleWrong)

/-- 'gridhalllaw2.ZoneDistances': WHATEVER THE INPUT: true; the input reads as it did. -/
def zoneDistancesSpec : ChangeSpec := { name := "zoneDistances", fn := fun _ => fun
  | [d1, d2, d3] => { results := [.lit (.bool true)], args := [d1, d2, d3] }
  | _ => none }
def zoneDistancesRow : OpenClaim := { program := "ytdgjelbkogfedaa", sum := "125b83debe3895dd42ea293fcfb6daea96970ea4bc133bbddc6148c3ed7e72b9", func := "gridhall/gridhalllaw2.ZoneDistances", spec := "zoneDistances", unfollowed := true, recurses := true, apart := false }
def ZoneDistancesSaid : Prop := zoneDistancesRow.holds Try.pinned (OpenSpec.ofChange zoneDistancesSpec)

/-- ITS FALSE NEIGHBOUR: 'it returns false'. Refute it at one input. -/
def zoneDistancesWrong : ChangeSpec := { name := "zoneDistances", fn := fun _ => fun
  | [d1, d2, d3] => { results := [.lit (.bool false)], args := [d1, d2, d3] }
  | _ => none }
def ZoneDistancesWrongFalsely : Prop := zoneDistancesRow.holds Try.pinned (OpenSpec.ofChange zoneDistancesWrong)

/-- 'gridhalllaw3.AuctionClears': WHATEVER THE INPUT: true; the input reads as it did. -/
def auctionClearsSpec : ChangeSpec := { name := "auctionClears", fn := fun _ => fun
  | [d] => { results := [.lit (.bool true)], args := [d] }
  | _ => none }
def auctionClearsRow : OpenClaim := { program := "ytdgjelbkogfedaa", sum := "125b83debe3895dd42ea293fcfb6daea96970ea4bc133bbddc6148c3ed7e72b9", func := "gridhall/gridhalllaw3.AuctionClears", spec := "auctionClears", unfollowed := true, recurses := true, apart := false }
def AuctionClearsSaid : Prop := auctionClearsRow.holds Try.pinned (OpenSpec.ofChange auctionClearsSpec)

/-- ITS FALSE NEIGHBOUR: 'it returns false'. Refute it at one input. -/
def auctionClearsWrong : ChangeSpec := { name := "auctionClears", fn := fun _ => fun
  | [d] => { results := [.lit (.bool false)], args := [d] }
  | _ => none }
def AuctionClearsWrongFalsely : Prop := auctionClearsRow.holds Try.pinned (OpenSpec.ofChange auctionClearsWrong)

/-- 'gridhalllaw3.ConvexMoves': WHATEVER THE INPUT: true; the input reads as it did. -/
def convexMovesSpec : ChangeSpec := { name := "convexMoves", fn := fun _ => fun
  | [d1, d2, d3, d4, d5] => { results := [.lit (.bool true)], args := [d1, d2, d3, d4, d5] }
  | _ => none }
def convexMovesRow : OpenClaim := { program := "ytdgjelbkogfedaa", sum := "125b83debe3895dd42ea293fcfb6daea96970ea4bc133bbddc6148c3ed7e72b9", func := "gridhall/gridhalllaw3.ConvexMoves", spec := "convexMoves", unfollowed := true, recurses := true, apart := false }
def ConvexMovesSaid : Prop := convexMovesRow.holds Try.pinned (OpenSpec.ofChange convexMovesSpec)

/-- ITS FALSE NEIGHBOUR: 'it returns false'. Refute it at one input. -/
def convexMovesWrong : ChangeSpec := { name := "convexMoves", fn := fun _ => fun
  | [d1, d2, d3, d4, d5] => { results := [.lit (.bool false)], args := [d1, d2, d3, d4, d5] }
  | _ => none }
def ConvexMovesWrongFalsely : Prop := convexMovesRow.holds Try.pinned (OpenSpec.ofChange convexMovesWrong)

/-- 'gridhalllaw3.ConvexSums': WHATEVER THE INPUT: true; the input reads as it did. -/
def convexSumsSpec : ChangeSpec := { name := "convexSums", fn := fun _ => fun
  | [d1, d2] => { results := [.lit (.bool true)], args := [d1, d2] }
  | _ => none }
def convexSumsRow : OpenClaim := { program := "ytdgjelbkogfedaa", sum := "125b83debe3895dd42ea293fcfb6daea96970ea4bc133bbddc6148c3ed7e72b9", func := "gridhall/gridhalllaw3.ConvexSums", spec := "convexSums", unfollowed := true, recurses := true, apart := false }
def ConvexSumsSaid : Prop := convexSumsRow.holds Try.pinned (OpenSpec.ofChange convexSumsSpec)

/-- ITS FALSE NEIGHBOUR: 'it returns false'. Refute it at one input. -/
def convexSumsWrong : ChangeSpec := { name := "convexSums", fn := fun _ => fun
  | [d1, d2] => { results := [.lit (.bool false)], args := [d1, d2] }
  | _ => none }
def ConvexSumsWrongFalsely : Prop := convexSumsRow.holds Try.pinned (OpenSpec.ofChange convexSumsWrong)

/-- 'gridhalllaw3.RampNearest': WHATEVER THE INPUT: true; the input reads as it did. -/
def rampNearestSpec : ChangeSpec := { name := "rampNearest", fn := fun _ => fun
  | [d1, d2, d3, d4, d5] => { results := [.lit (.bool true)], args := [d1, d2, d3, d4, d5] }
  | _ => none }
def rampNearestRow : OpenClaim := { program := "ytdgjelbkogfedaa", sum := "125b83debe3895dd42ea293fcfb6daea96970ea4bc133bbddc6148c3ed7e72b9", func := "gridhall/gridhalllaw3.RampNearest", spec := "rampNearest", unfollowed := true, recurses := true, apart := false }
def RampNearestSaid : Prop := rampNearestRow.holds Try.pinned (OpenSpec.ofChange rampNearestSpec)

/-- ITS FALSE NEIGHBOUR: 'it returns false'. Refute it at one input. -/
def rampNearestWrong : ChangeSpec := { name := "rampNearest", fn := fun _ => fun
  | [d1, d2, d3, d4, d5] => { results := [.lit (.bool false)], args := [d1, d2, d3, d4, d5] }
  | _ => none }
def RampNearestWrongFalsely : Prop := rampNearestRow.holds Try.pinned (OpenSpec.ofChange rampNearestWrong)

/- THE SECOND FORM. 'bulk': how many values and letters a reading holds, each counted each time it is reached (what is shared counts as often as it is met; a slice's spare places count too). A statement '..UptoSaid' is the law's where the arguments, and the package variables that the reading takes, are together of bulk at most 1048576: NARROWER than '..Said'. Prove '..Said' where nothing that the law and all that it calls make is longer than what came in: it says more and counts as full. Else prove '..UptoSaid'. A law counts once. -/
mutual
def uptoBulk {H : Type} : DataW H → Nat
  | .lit (.string bytes) => bytes.length + 1
  | .lit _ => 1
  | .nil => 1
  | .ptr d => uptoBulk d + 1
  | .slice elems spare => uptoBulkAll elems + uptoBulkAll spare + 1
  | .agg parts => uptoBulkAll parts + 1
  | .iface _ d => uptoBulk d + 1
  | .map entries => uptoBulkEntries entries + 1
  | .held _ => 1
def uptoBulkAll {H : Type} : List (DataW H) → Nat
  | [] => 0
  | d :: r => uptoBulk d + uptoBulkAll r
def uptoBulkEntries {H : Type} : List (Lit × DataW H) → Nat
  | [] => 0
  | x :: r => uptoBulkEntry x + uptoBulkEntries r
def uptoBulkEntry {H : Type} : Lit × DataW H → Nat
  | (.string bytes, d) => bytes.length + uptoBulk d + 1
  | (_, d) => uptoBulk d + 1
 end
def uptoSmall : (H : Type) → List (DataW H) → Bool := fun _ ds => decide (uptoBulkAll ds ≤ 1048576)
def OpenSpec.upto (s : _root_.Go.ChangeSpec) : _root_.Go.OpenSpec := { _root_.Go.OpenSpec.ofChange s with cond := some uptoSmall }

/-- 'gridhalllaw3.DualSingle', WHERE WHAT IT READS IS OF BULK AT MOST 1048576: true; the input reads as it did. -/
def dualSingleUptoRow : OpenClaim := { program := "ytdgjelbkogfedaa", sum := "125b83debe3895dd42ea293fcfb6daea96970ea4bc133bbddc6148c3ed7e72b9", func := "gridhall/gridhalllaw3.DualSingle", spec := "dualSingle", apart := false, narrowed := true }
def DualSingleUptoSaid : Prop := dualSingleUptoRow.holds Try.pinned (OpenSpec.upto dualSingleSpec)

/-- 'gridhalllaw2.ZoneDistances', WHERE WHAT IT READS IS OF BULK AT MOST 1048576: true; the input reads as it did. -/
def zoneDistancesUptoRow : OpenClaim := { program := "ytdgjelbkogfedaa", sum := "125b83debe3895dd42ea293fcfb6daea96970ea4bc133bbddc6148c3ed7e72b9", func := "gridhall/gridhalllaw2.ZoneDistances", spec := "zoneDistances", unfollowed := true, recurses := true, apart := false, narrowed := true }
def ZoneDistancesUptoSaid : Prop := zoneDistancesUptoRow.holds Try.pinned (OpenSpec.upto zoneDistancesSpec)

/-- 'gridhalllaw3.AuctionClears', WHERE WHAT IT READS IS OF BULK AT MOST 1048576: true; the input reads as it did. -/
def auctionClearsUptoRow : OpenClaim := { program := "ytdgjelbkogfedaa", sum := "125b83debe3895dd42ea293fcfb6daea96970ea4bc133bbddc6148c3ed7e72b9", func := "gridhall/gridhalllaw3.AuctionClears", spec := "auctionClears", unfollowed := true, recurses := true, apart := false, narrowed := true }
def AuctionClearsUptoSaid : Prop := auctionClearsUptoRow.holds Try.pinned (OpenSpec.upto auctionClearsSpec)

/-- 'gridhalllaw3.ConvexMoves', WHERE WHAT IT READS IS OF BULK AT MOST 1048576: true; the input reads as it did. -/
def convexMovesUptoRow : OpenClaim := { program := "ytdgjelbkogfedaa", sum := "125b83debe3895dd42ea293fcfb6daea96970ea4bc133bbddc6148c3ed7e72b9", func := "gridhall/gridhalllaw3.ConvexMoves", spec := "convexMoves", unfollowed := true, recurses := true, apart := false, narrowed := true }
def ConvexMovesUptoSaid : Prop := convexMovesUptoRow.holds Try.pinned (OpenSpec.upto convexMovesSpec)

/-- 'gridhalllaw3.ConvexSums', WHERE WHAT IT READS IS OF BULK AT MOST 1048576: true; the input reads as it did. -/
def convexSumsUptoRow : OpenClaim := { program := "ytdgjelbkogfedaa", sum := "125b83debe3895dd42ea293fcfb6daea96970ea4bc133bbddc6148c3ed7e72b9", func := "gridhall/gridhalllaw3.ConvexSums", spec := "convexSums", unfollowed := true, recurses := true, apart := false, narrowed := true }
def ConvexSumsUptoSaid : Prop := convexSumsUptoRow.holds Try.pinned (OpenSpec.upto convexSumsSpec)

/-- 'gridhalllaw3.RampNearest', WHERE WHAT IT READS IS OF BULK AT MOST 1048576: true; the input reads as it did. -/
def rampNearestUptoRow : OpenClaim := { program := "ytdgjelbkogfedaa", sum := "125b83debe3895dd42ea293fcfb6daea96970ea4bc133bbddc6148c3ed7e72b9", func := "gridhall/gridhalllaw3.RampNearest", spec := "rampNearest", unfollowed := true, recurses := true, apart := false, narrowed := true }
def RampNearestUptoSaid : Prop := rampNearestUptoRow.holds Try.pinned (OpenSpec.upto rampNearestSpec)

end Rows
end Go.Proofs.Ytdgjelbkogfedaa
