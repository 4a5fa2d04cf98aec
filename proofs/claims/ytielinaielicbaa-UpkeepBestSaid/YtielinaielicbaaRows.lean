/-
  No cell of these rows narrows 'for every input' (looked for: loops, veiled, ifaces, maps, wideKeys, modest, calm, conditions, laid).
  DERIVED. THE GIVEN ROWS OF THIS SEAT. 6 by the template 'for every input the law returns true; each argument reads behind the call as it read before'; 0 by the template 'total and deterministic' (their statements: YtielinaielicbaaTotals.lean).
  GIVEN WITH THE SEED: the statements are not yours to turn. If you find one false, say at which input.
  Laid BY PROGRAM, IN A SANDBOX (cutbox-rows.mjs): the forced cells as the released guide's own fill.sh prints them over the translation 3b72e9b532e0096e… (all of the seat's roots in one cut). By AI agents, Wed Nov 11 2026. No macro, syntax, notation, axiom, sorry.
-/
import Derived.Test.YtielinaielicbaaChecked
import GoSem.Claim
import GoSem.ClaimJoined
import GoSem.ClaimMapViews
import Derived.JoinedTies
import Derived.KernelRfl
namespace Go.Proofs.Ytielinaielicbaa
/- THE CELL 'sum', in the pinned program and in every row, IS THE sha256 OF THE DUMP (.gsa) THAT YtielinaielicbaaProg.lean LOADS. Nothing in Lean hashes anything: it is a label: what it is worth is what the hold of that sum in a sandbox is worth. -/
noncomputable def Try.pinned : Pinned := { name := "ytielinaielicbaa", sum := "3b72e9b532e0096e1f5a5cf60c1693e55804ca215e0cba58f436a9c067ae1f80", checked := Try.checked }
namespace Rows
def none {H : Type} : Left H := { results := [], args := [] }

/-- 'gridhalllaw4.UpkeepSays': WHATEVER THE INPUT: true; the input reads as it did. -/
def upkeepSaysSpec : ChangeSpec := { name := "upkeepSays", fn := fun _ => fun
  | [d1, d2] => { results := [.lit (.bool true)], args := [d1, d2] }
  | _ => none }
def upkeepSaysRow : OpenClaim := { program := "ytielinaielicbaa", sum := "3b72e9b532e0096e1f5a5cf60c1693e55804ca215e0cba58f436a9c067ae1f80", func := "gridhall/gridhalllaw4.UpkeepSays", spec := "upkeepSays", unfollowed := true, recurses := true, apart := false }
def UpkeepSaysSaid : Prop := upkeepSaysRow.holds Try.pinned (OpenSpec.ofChange upkeepSaysSpec)

/-- ITS FALSE NEIGHBOUR: 'it returns false'. Refute it at one input. -/
def upkeepSaysWrong : ChangeSpec := { name := "upkeepSays", fn := fun _ => fun
  | [d1, d2] => { results := [.lit (.bool false)], args := [d1, d2] }
  | _ => none }
def UpkeepSaysWrongFalsely : Prop := upkeepSaysRow.holds Try.pinned (OpenSpec.ofChange upkeepSaysWrong)

/-- 'gridhalllaw4.UpkeepBest': WHATEVER THE INPUT: true; the input reads as it did. -/
def upkeepBestSpec : ChangeSpec := { name := "upkeepBest", fn := fun _ => fun
  | [d] => { results := [.lit (.bool true)], args := [d] }
  | _ => none }
def upkeepBestRow : OpenClaim := { program := "ytielinaielicbaa", sum := "3b72e9b532e0096e1f5a5cf60c1693e55804ca215e0cba58f436a9c067ae1f80", func := "gridhall/gridhalllaw4.UpkeepBest", spec := "upkeepBest", unfollowed := true, recurses := true, apart := false }
def UpkeepBestSaid : Prop := upkeepBestRow.holds Try.pinned (OpenSpec.ofChange upkeepBestSpec)

/-- ITS FALSE NEIGHBOUR: 'it returns false'. Refute it at one input. -/
def upkeepBestWrong : ChangeSpec := { name := "upkeepBest", fn := fun _ => fun
  | [d] => { results := [.lit (.bool false)], args := [d] }
  | _ => none }
def UpkeepBestWrongFalsely : Prop := upkeepBestRow.holds Try.pinned (OpenSpec.ofChange upkeepBestWrong)

/-- 'gridhalllaw4.ShedSays': WHATEVER THE INPUT: true; the input reads as it did. -/
def shedSaysSpec : ChangeSpec := { name := "shedSays", fn := fun _ => fun
  | [d1, d2] => { results := [.lit (.bool true)], args := [d1, d2] }
  | _ => none }
def shedSaysRow : OpenClaim := { program := "ytielinaielicbaa", sum := "3b72e9b532e0096e1f5a5cf60c1693e55804ca215e0cba58f436a9c067ae1f80", func := "gridhall/gridhalllaw4.ShedSays", spec := "shedSays", apart := false }
def ShedSaysSaid : Prop := shedSaysRow.holds Try.pinned (OpenSpec.ofChange shedSaysSpec)

/-- ITS FALSE NEIGHBOUR: 'it returns false'. Refute it at one input. -/
def shedSaysWrong : ChangeSpec := { name := "shedSays", fn := fun _ => fun
  | [d1, d2] => { results := [.lit (.bool false)], args := [d1, d2] }
  | _ => none }
def ShedSaysWrongFalsely : Prop := shedSaysRow.holds Try.pinned (OpenSpec.ofChange shedSaysWrong)

/-- 'gridhalllaw4.InterlockSays': WHATEVER THE INPUT: true; the input reads as it did. -/
def interlockSaysSpec : ChangeSpec := { name := "interlockSays", fn := fun _ => fun
  | [d1, d2, d3, d4] => { results := [.lit (.bool true)], args := [d1, d2, d3, d4] }
  | _ => none }
def interlockSaysRow : OpenClaim := { program := "ytielinaielicbaa", sum := "3b72e9b532e0096e1f5a5cf60c1693e55804ca215e0cba58f436a9c067ae1f80", func := "gridhall/gridhalllaw4.InterlockSays", spec := "interlockSays", unfollowed := true, recurses := true, apart := false }
def InterlockSaysSaid : Prop := interlockSaysRow.holds Try.pinned (OpenSpec.ofChange interlockSaysSpec)

/-- ITS FALSE NEIGHBOUR: 'it returns false'. Refute it at one input. -/
def interlockSaysWrong : ChangeSpec := { name := "interlockSays", fn := fun _ => fun
  | [d1, d2, d3, d4] => { results := [.lit (.bool false)], args := [d1, d2, d3, d4] }
  | _ => none }
def InterlockSaysWrongFalsely : Prop := interlockSaysRow.holds Try.pinned (OpenSpec.ofChange interlockSaysWrong)

/-- 'gridhalllaw4.PermitSays': WHATEVER THE INPUT: true; the input reads as it did. -/
def permitSaysSpec : ChangeSpec := { name := "permitSays", fn := fun _ => fun
  | [d1, d2, d3] => { results := [.lit (.bool true)], args := [d1, d2, d3] }
  | _ => none }
def permitSaysRow : OpenClaim := { program := "ytielinaielicbaa", sum := "3b72e9b532e0096e1f5a5cf60c1693e55804ca215e0cba58f436a9c067ae1f80", func := "gridhall/gridhalllaw4.PermitSays", spec := "permitSays", unfollowed := true, recurses := true, apart := false }
def PermitSaysSaid : Prop := permitSaysRow.holds Try.pinned (OpenSpec.ofChange permitSaysSpec)

/-- ITS FALSE NEIGHBOUR: 'it returns false'. Refute it at one input. -/
def permitSaysWrong : ChangeSpec := { name := "permitSays", fn := fun _ => fun
  | [d1, d2, d3] => { results := [.lit (.bool false)], args := [d1, d2, d3] }
  | _ => none }
def PermitSaysWrongFalsely : Prop := permitSaysRow.holds Try.pinned (OpenSpec.ofChange permitSaysWrong)

/-- 'gridhalllaw4.TelemetrySays': WHATEVER THE INPUT: true; the input reads as it did. -/
def telemetrySaysSpec : ChangeSpec := { name := "telemetrySays", fn := fun _ => fun
  | [d1, d2, d3, d4] => { results := [.lit (.bool true)], args := [d1, d2, d3, d4] }
  | _ => none }
def telemetrySaysRow : OpenClaim := { program := "ytielinaielicbaa", sum := "3b72e9b532e0096e1f5a5cf60c1693e55804ca215e0cba58f436a9c067ae1f80", func := "gridhall/gridhalllaw4.TelemetrySays", spec := "telemetrySays", inPlace := ["internal/bytealg.abigen_runtime_cmpstring", "slices.overlaps[gridhall/api.TelemetryMsg]", "slices.overlaps[int]"], unfollowed := true, recurses := true, apart := false }
def TelemetrySaysSaid : Prop := telemetrySaysRow.holds Try.pinned (OpenSpec.ofChange telemetrySaysSpec)

/-- ITS FALSE NEIGHBOUR: 'it returns false'. Refute it at one input. -/
def telemetrySaysWrong : ChangeSpec := { name := "telemetrySays", fn := fun _ => fun
  | [d1, d2, d3, d4] => { results := [.lit (.bool false)], args := [d1, d2, d3, d4] }
  | _ => none }
def TelemetrySaysWrongFalsely : Prop := telemetrySaysRow.holds Try.pinned (OpenSpec.ofChange telemetrySaysWrong)

/- THE SECOND FORM. 'bulk': how many values and letters a reading holds, each counted each time it is reached (what is shared counts as often as it is met; a slice's spare places count too). A statement '..UptoSaid' is the law's where the arguments, and the package variables that the reading takes, are together of bulk at most 1048576: NARROWER than '..Said'. Prove '..Said' where nothing that the law and all that it calls make is longer than what came in: it says more and counts as full. Else prove '..UptoSaid'. A law counts once. -/
mutual
def uptoBulk {H : Type} : DataW H → Nat
  | .lit (.string bytes) => bytes.length + 1
  | .lit _ => 1
  | .nil => 1
  | .ptr d => uptoBulk d + 1
  | .slice elems spare => uptoBulkAll elems + uptoBulkAll spare + 1
  | .agg parts => uptoBulkAll parts + 1
  | .iface _ d => uptoBulk d + 1
  | .map entries => uptoBulkEntries entries + 1
  | .held _ => 1
def uptoBulkAll {H : Type} : List (DataW H) → Nat
  | [] => 0
  | d :: r => uptoBulk d + uptoBulkAll r
def uptoBulkEntries {H : Type} : List (Lit × DataW H) → Nat
  | [] => 0
  | x :: r => uptoBulkEntry x + uptoBulkEntries r
def uptoBulkEntry {H : Type} : Lit × DataW H → Nat
  | (.string bytes, d) => bytes.length + uptoBulk d + 1
  | (_, d) => uptoBulk d + 1
 end
def uptoSmall : (H : Type) → List (DataW H) → Bool := fun _ ds => decide (uptoBulkAll ds ≤ 1048576)
def OpenSpec.upto (s : _root_.Go.ChangeSpec) : _root_.Go.OpenSpec := { _root_.Go.OpenSpec.ofChange s with cond := some uptoSmall }

/-- 'gridhalllaw4.UpkeepSays', WHERE WHAT IT READS IS OF BULK AT MOST 1048576: true; the input reads as it did. -/
def upkeepSaysUptoRow : OpenClaim := { program := "ytielinaielicbaa", sum := "3b72e9b532e0096e1f5a5cf60c1693e55804ca215e0cba58f436a9c067ae1f80", func := "gridhall/gridhalllaw4.UpkeepSays", spec := "upkeepSays", unfollowed := true, recurses := true, apart := false, narrowed := true }
def UpkeepSaysUptoSaid : Prop := upkeepSaysUptoRow.holds Try.pinned (OpenSpec.upto upkeepSaysSpec)

/-- 'gridhalllaw4.UpkeepBest', WHERE WHAT IT READS IS OF BULK AT MOST 1048576: true; the input reads as it did. -/
def upkeepBestUptoRow : OpenClaim := { program := "ytielinaielicbaa", sum := "3b72e9b532e0096e1f5a5cf60c1693e55804ca215e0cba58f436a9c067ae1f80", func := "gridhall/gridhalllaw4.UpkeepBest", spec := "upkeepBest", unfollowed := true, recurses := true, apart := false, narrowed := true }
def UpkeepBestUptoSaid : Prop := upkeepBestUptoRow.holds Try.pinned (OpenSpec.upto upkeepBestSpec)

/-- 'gridhalllaw4.ShedSays', WHERE WHAT IT READS IS OF BULK AT MOST 1048576: true; the input reads as it did. -/
def shedSaysUptoRow : OpenClaim := { program := "ytielinaielicbaa", sum := "3b72e9b532e0096e1f5a5cf60c1693e55804ca215e0cba58f436a9c067ae1f80", func := "gridhall/gridhalllaw4.ShedSays", spec := "shedSays", apart := false, narrowed := true }
def ShedSaysUptoSaid : Prop := shedSaysUptoRow.holds Try.pinned (OpenSpec.upto shedSaysSpec)

/-- 'gridhalllaw4.InterlockSays', WHERE WHAT IT READS IS OF BULK AT MOST 1048576: true; the input reads as it did. -/
def interlockSaysUptoRow : OpenClaim := { program := "ytielinaielicbaa", sum := "3b72e9b532e0096e1f5a5cf60c1693e55804ca215e0cba58f436a9c067ae1f80", func := "gridhall/gridhalllaw4.InterlockSays", spec := "interlockSays", unfollowed := true, recurses := true, apart := false, narrowed := true }
def InterlockSaysUptoSaid : Prop := interlockSaysUptoRow.holds Try.pinned (OpenSpec.upto interlockSaysSpec)

/-- 'gridhalllaw4.PermitSays', WHERE WHAT IT READS IS OF BULK AT MOST 1048576: true; the input reads as it did. -/
def permitSaysUptoRow : OpenClaim := { program := "ytielinaielicbaa", sum := "3b72e9b532e0096e1f5a5cf60c1693e55804ca215e0cba58f436a9c067ae1f80", func := "gridhall/gridhalllaw4.PermitSays", spec := "permitSays", unfollowed := true, recurses := true, apart := false, narrowed := true }
def PermitSaysUptoSaid : Prop := permitSaysUptoRow.holds Try.pinned (OpenSpec.upto permitSaysSpec)

/-- 'gridhalllaw4.TelemetrySays', WHERE WHAT IT READS IS OF BULK AT MOST 1048576: true; the input reads as it did. -/
def telemetrySaysUptoRow : OpenClaim := { program := "ytielinaielicbaa", sum := "3b72e9b532e0096e1f5a5cf60c1693e55804ca215e0cba58f436a9c067ae1f80", func := "gridhall/gridhalllaw4.TelemetrySays", spec := "telemetrySays", inPlace := ["internal/bytealg.abigen_runtime_cmpstring", "slices.overlaps[gridhall/api.TelemetryMsg]", "slices.overlaps[int]"], unfollowed := true, recurses := true, apart := false, narrowed := true }
def TelemetrySaysUptoSaid : Prop := telemetrySaysUptoRow.holds Try.pinned (OpenSpec.upto telemetrySaysSpec)

end Rows
end Go.Proofs.Ytielinaielicbaa
