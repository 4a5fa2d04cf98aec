/-
  No cell of these rows narrows 'for every input' (looked for: loops, veiled, ifaces, maps, wideKeys, modest, calm, conditions, laid).
  DERIVED. THE GIVEN ROWS OF THIS SEAT. 5 by the template 'for every input the law returns true; each argument reads behind the call as it read before'; 0 by the template 'total and deterministic' (their statements: YtefkdkppipdceaaTotals.lean).
  GIVEN WITH THE SEED: the statements are not yours to turn. If you find one false, say at which input.
  Laid BY PROGRAM, IN A SANDBOX (cutbox-rows.mjs): the forced cells as the released guide's own fill.sh prints them over the translation 8160bd7c536ea469… (all of the seat's roots in one cut). By AI agents, Wed Nov 11 2026. No macro, syntax, notation, axiom, sorry.
-/
import Derived.Test.YtefkdkppipdceaaChecked
import GoSem.Claim
import GoSem.ClaimJoined
import GoSem.ClaimMapViews
import Derived.JoinedTies
import Derived.KernelRfl
namespace Go.Proofs.Ytefkdkppipdceaa
/- THE CELL 'sum', in the pinned program and in every row, IS THE sha256 OF THE DUMP (.gsa) THAT YtefkdkppipdceaaProg.lean LOADS. Nothing in Lean hashes anything: it is a label: what it is worth is what the hold of that sum in a sandbox is worth. -/
noncomputable def Try.pinned : Pinned := { name := "ytefkdkppipdceaa", sum := "8160bd7c536ea4691ff275c1e54b83a5ad780eeaaf4927ff85a7734834ecc5ee", checked := Try.checked }
namespace Rows
def none {H : Type} : Left H := { results := [], args := [] }

/-- 'gridhalllaw2.ChooseLeast': WHATEVER THE INPUT: true; the input reads as it did. -/
def chooseLeastSpec : ChangeSpec := { name := "chooseLeast", fn := fun _ => fun
  | [d1, d2] => { results := [.lit (.bool true)], args := [d1, d2] }
  | _ => none }
def chooseLeastRow : OpenClaim := { program := "ytefkdkppipdceaa", sum := "8160bd7c536ea4691ff275c1e54b83a5ad780eeaaf4927ff85a7734834ecc5ee", func := "gridhall/gridhalllaw2.ChooseLeast", spec := "chooseLeast", unfollowed := true, recurses := true, apart := false }
def ChooseLeastSaid : Prop := chooseLeastRow.holds Try.pinned (OpenSpec.ofChange chooseLeastSpec)

/-- ITS FALSE NEIGHBOUR: 'it returns false'. Refute it at one input. -/
def chooseLeastWrong : ChangeSpec := { name := "chooseLeast", fn := fun _ => fun
  | [d1, d2] => { results := [.lit (.bool false)], args := [d1, d2] }
  | _ => none }
def ChooseLeastWrongFalsely : Prop := chooseLeastRow.holds Try.pinned (OpenSpec.ofChange chooseLeastWrong)

/-- 'gridhalllaw2.ChooseIsolated': WHATEVER THE INPUT: true; the input reads as it did. -/
def chooseIsolatedSpec : ChangeSpec := { name := "chooseIsolated", fn := fun _ => fun
  | [d1, d2, d3] => { results := [.lit (.bool true)], args := [d1, d2, d3] }
  | _ => none }
def chooseIsolatedRow : OpenClaim := { program := "ytefkdkppipdceaa", sum := "8160bd7c536ea4691ff275c1e54b83a5ad780eeaaf4927ff85a7734834ecc5ee", func := "gridhall/gridhalllaw2.ChooseIsolated", spec := "chooseIsolated", unfollowed := true, recurses := true, apart := false }
def ChooseIsolatedSaid : Prop := chooseIsolatedRow.holds Try.pinned (OpenSpec.ofChange chooseIsolatedSpec)

/-- ITS FALSE NEIGHBOUR: 'it returns false'. Refute it at one input. -/
def chooseIsolatedWrong : ChangeSpec := { name := "chooseIsolated", fn := fun _ => fun
  | [d1, d2, d3] => { results := [.lit (.bool false)], args := [d1, d2, d3] }
  | _ => none }
def ChooseIsolatedWrongFalsely : Prop := chooseIsolatedRow.holds Try.pinned (OpenSpec.ofChange chooseIsolatedWrong)

/-- 'gridhalllaw3.CommitServes': WHATEVER THE INPUT: true; the input reads as it did. -/
def commitServesSpec : ChangeSpec := { name := "commitServes", fn := fun _ => fun
  | [d1, d2, d3] => { results := [.lit (.bool true)], args := [d1, d2, d3] }
  | _ => none }
def commitServesRow : OpenClaim := { program := "ytefkdkppipdceaa", sum := "8160bd7c536ea4691ff275c1e54b83a5ad780eeaaf4927ff85a7734834ecc5ee", func := "gridhall/gridhalllaw3.CommitServes", spec := "commitServes", unfollowed := true, recurses := true, apart := false }
def CommitServesSaid : Prop := commitServesRow.holds Try.pinned (OpenSpec.ofChange commitServesSpec)

/-- ITS FALSE NEIGHBOUR: 'it returns false'. Refute it at one input. -/
def commitServesWrong : ChangeSpec := { name := "commitServes", fn := fun _ => fun
  | [d1, d2, d3] => { results := [.lit (.bool false)], args := [d1, d2, d3] }
  | _ => none }
def CommitServesWrongFalsely : Prop := commitServesRow.holds Try.pinned (OpenSpec.ofChange commitServesWrong)

/-- 'gridhalllaw3.CommitBest': WHATEVER THE INPUT: true; the input reads as it did. -/
def commitBestSpec : ChangeSpec := { name := "commitBest", fn := fun _ => fun
  | [d1, d2] => { results := [.lit (.bool true)], args := [d1, d2] }
  | _ => none }
def commitBestRow : OpenClaim := { program := "ytefkdkppipdceaa", sum := "8160bd7c536ea4691ff275c1e54b83a5ad780eeaaf4927ff85a7734834ecc5ee", func := "gridhall/gridhalllaw3.CommitBest", spec := "commitBest", unfollowed := true, recurses := true, apart := false }
def CommitBestSaid : Prop := commitBestRow.holds Try.pinned (OpenSpec.ofChange commitBestSpec)

/-- ITS FALSE NEIGHBOUR: 'it returns false'. Refute it at one input. -/
def commitBestWrong : ChangeSpec := { name := "commitBest", fn := fun _ => fun
  | [d1, d2] => { results := [.lit (.bool false)], args := [d1, d2] }
  | _ => none }
def CommitBestWrongFalsely : Prop := commitBestRow.holds Try.pinned (OpenSpec.ofChange commitBestWrong)

/-- 'gridhalllaw4.AlarmSays': WHATEVER THE INPUT: true; the input reads as it did. -/
def alarmSaysSpec : ChangeSpec := { name := "alarmSays", fn := fun _ => fun
  | [d1, d2, d3] => { results := [.lit (.bool true)], args := [d1, d2, d3] }
  | _ => none }
def alarmSaysRow : OpenClaim := { program := "ytefkdkppipdceaa", sum := "8160bd7c536ea4691ff275c1e54b83a5ad780eeaaf4927ff85a7734834ecc5ee", func := "gridhall/gridhalllaw4.AlarmSays", spec := "alarmSays", recurses := true, apart := false }
def AlarmSaysSaid : Prop := alarmSaysRow.holds Try.pinned (OpenSpec.ofChange alarmSaysSpec)

/-- ITS FALSE NEIGHBOUR: 'it returns false'. Refute it at one input. -/
def alarmSaysWrong : ChangeSpec := { name := "alarmSays", fn := fun _ => fun
  | [d1, d2, d3] => { results := [.lit (.bool false)], args := [d1, d2, d3] }
  | _ => none }
def AlarmSaysWrongFalsely : Prop := alarmSaysRow.holds Try.pinned (OpenSpec.ofChange alarmSaysWrong)

/- THE SECOND FORM. 'bulk': how many values and letters a reading holds, each counted each time it is reached (what is shared counts as often as it is met; a slice's spare places count too). A statement '..UptoSaid' is the law's where the arguments, and the package variables that the reading takes, are together of bulk at most 1048576: NARROWER than '..Said'. Prove '..Said' where nothing that the law and all that it calls make is longer than what came in: it says more and counts as full. Else prove '..UptoSaid'. A law counts once. -/
mutual
def uptoBulk {H : Type} : DataW H → Nat
  | .lit (.string bytes) => bytes.length + 1
  | .lit _ => 1
  | .nil => 1
  | .ptr d => uptoBulk d + 1
  | .slice elems spare => uptoBulkAll elems + uptoBulkAll spare + 1
  | .agg parts => uptoBulkAll parts + 1
  | .iface _ d => uptoBulk d + 1
  | .map entries => uptoBulkEntries entries + 1
  | .held _ => 1
def uptoBulkAll {H : Type} : List (DataW H) → Nat
  | [] => 0
  | d :: r => uptoBulk d + uptoBulkAll r
def uptoBulkEntries {H : Type} : List (Lit × DataW H) → Nat
  | [] => 0
  | x :: r => uptoBulkEntry x + uptoBulkEntries r
def uptoBulkEntry {H : Type} : Lit × DataW H → Nat
  | (.string bytes, d) => bytes.length + uptoBulk d + 1
  | (_, d) => uptoBulk d + 1
 end
def uptoSmall : (H : Type) → List (DataW H) → Bool := fun _ ds => decide (uptoBulkAll ds ≤ 1048576)
def OpenSpec.upto (s : _root_.Go.ChangeSpec) : _root_.Go.OpenSpec := { _root_.Go.OpenSpec.ofChange s with cond := some uptoSmall }

/-- 'gridhalllaw2.ChooseLeast', WHERE WHAT IT READS IS OF BULK AT MOST 1048576: true; the input reads as it did. -/
def chooseLeastUptoRow : OpenClaim := { program := "ytefkdkppipdceaa", sum := "8160bd7c536ea4691ff275c1e54b83a5ad780eeaaf4927ff85a7734834ecc5ee", func := "gridhall/gridhalllaw2.ChooseLeast", spec := "chooseLeast", unfollowed := true, recurses := true, apart := false, narrowed := true }
def ChooseLeastUptoSaid : Prop := chooseLeastUptoRow.holds Try.pinned (OpenSpec.upto chooseLeastSpec)

/-- 'gridhalllaw2.ChooseIsolated', WHERE WHAT IT READS IS OF BULK AT MOST 1048576: true; the input reads as it did. -/
def chooseIsolatedUptoRow : OpenClaim := { program := "ytefkdkppipdceaa", sum := "8160bd7c536ea4691ff275c1e54b83a5ad780eeaaf4927ff85a7734834ecc5ee", func := "gridhall/gridhalllaw2.ChooseIsolated", spec := "chooseIsolated", unfollowed := true, recurses := true, apart := false, narrowed := true }
def ChooseIsolatedUptoSaid : Prop := chooseIsolatedUptoRow.holds Try.pinned (OpenSpec.upto chooseIsolatedSpec)

/-- 'gridhalllaw3.CommitServes', WHERE WHAT IT READS IS OF BULK AT MOST 1048576: true; the input reads as it did. -/
def commitServesUptoRow : OpenClaim := { program := "ytefkdkppipdceaa", sum := "8160bd7c536ea4691ff275c1e54b83a5ad780eeaaf4927ff85a7734834ecc5ee", func := "gridhall/gridhalllaw3.CommitServes", spec := "commitServes", unfollowed := true, recurses := true, apart := false, narrowed := true }
def CommitServesUptoSaid : Prop := commitServesUptoRow.holds Try.pinned (OpenSpec.upto commitServesSpec)

/-- 'gridhalllaw3.CommitBest', WHERE WHAT IT READS IS OF BULK AT MOST 1048576: true; the input reads as it did. -/
def commitBestUptoRow : OpenClaim := { program := "ytefkdkppipdceaa", sum := "8160bd7c536ea4691ff275c1e54b83a5ad780eeaaf4927ff85a7734834ecc5ee", func := "gridhall/gridhalllaw3.CommitBest", spec := "commitBest", unfollowed := true, recurses := true, apart := false, narrowed := true }
def CommitBestUptoSaid : Prop := commitBestUptoRow.holds Try.pinned (OpenSpec.upto commitBestSpec)

/-- 'gridhalllaw4.AlarmSays', WHERE WHAT IT READS IS OF BULK AT MOST 1048576: true; the input reads as it did. -/
def alarmSaysUptoRow : OpenClaim := { program := "ytefkdkppipdceaa", sum := "8160bd7c536ea4691ff275c1e54b83a5ad780eeaaf4927ff85a7734834ecc5ee", func := "gridhall/gridhalllaw4.AlarmSays", spec := "alarmSays", recurses := true, apart := false, narrowed := true }
def AlarmSaysUptoSaid : Prop := alarmSaysUptoRow.holds Try.pinned (OpenSpec.upto alarmSaysSpec)

end Rows
end Go.Proofs.Ytefkdkppipdceaa
