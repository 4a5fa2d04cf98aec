/-
  No cell of these rows narrows 'for every input' (looked for: loops, veiled, ifaces, maps, wideKeys, modest, calm, conditions, laid).
  DERIVED. THE GIVEN ROWS OF THIS SEAT. 6 by the template 'for every input the law returns true; each argument reads behind the call as it read before'; 0 by the template 'total and deterministic' (their statements: YtdhboohbifmbnaaTotals.lean).
  GIVEN WITH THE SEED: the statements are not yours to turn. If you find one false, say at which input.
  Laid BY PROGRAM, IN A SANDBOX (cutbox-rows.mjs): the forced cells as the released guide's own fill.sh prints them over the translation 01353397592f2929… (all of the seat's roots in one cut). By AI agents, Wed Nov 11 2026. No macro, syntax, notation, axiom, sorry.
-/
import Derived.Test.YtdhboohbifmbnaaChecked
import GoSem.Claim
import GoSem.ClaimJoined
import GoSem.ClaimMapViews
import Derived.JoinedTies
import Derived.KernelRfl
namespace Go.Proofs.Ytdhboohbifmbnaa
/- THE CELL 'sum', in the pinned program and in every row, IS THE sha256 OF THE DUMP (.gsa) THAT YtdhboohbifmbnaaProg.lean LOADS. Nothing in Lean hashes anything: it is a label: what it is worth is what the hold of that sum in a sandbox is worth. -/
noncomputable def Try.pinned : Pinned := { name := "ytdhboohbifmbnaa", sum := "01353397592f29299ef8a74e1e6e9f575fe663bfe4260494ffa524943e66b4f0", checked := Try.checked }
namespace Rows
def none {H : Type} : Left H := { results := [], args := [] }

/-- 'gridhalllaw3.OfferLists': WHATEVER THE INPUT: true; the input reads as it did. -/
def offerListsSpec : ChangeSpec := { name := "offerLists", fn := fun _ => fun
  | [d] => { results := [.lit (.bool true)], args := [d] }
  | _ => none }
def offerListsRow : OpenClaim := { program := "ytdhboohbifmbnaa", sum := "01353397592f29299ef8a74e1e6e9f575fe663bfe4260494ffa524943e66b4f0", func := "gridhall/gridhalllaw3.OfferLists", spec := "offerLists", apart := false }
def OfferListsSaid : Prop := offerListsRow.holds Try.pinned (OpenSpec.ofChange offerListsSpec)

/-- ITS FALSE NEIGHBOUR: 'it returns false'. Refute it at one input. -/
def offerListsWrong : ChangeSpec := { name := "offerLists", fn := fun _ => fun
  | [d] => { results := [.lit (.bool false)], args := [d] }
  | _ => none }
def OfferListsWrongFalsely : Prop := offerListsRow.holds Try.pinned (OpenSpec.ofChange offerListsWrong)

/-- 'gridhalllaw3.OfferCosts': WHATEVER THE INPUT: true; the input reads as it did. -/
def offerCostsSpec : ChangeSpec := { name := "offerCosts", fn := fun _ => fun
  | [d1, d2] => { results := [.lit (.bool true)], args := [d1, d2] }
  | _ => none }
def offerCostsRow : OpenClaim := { program := "ytdhboohbifmbnaa", sum := "01353397592f29299ef8a74e1e6e9f575fe663bfe4260494ffa524943e66b4f0", func := "gridhall/gridhalllaw3.OfferCosts", spec := "offerCosts", apart := false }
def OfferCostsSaid : Prop := offerCostsRow.holds Try.pinned (OpenSpec.ofChange offerCostsSpec)

/-- ITS FALSE NEIGHBOUR: 'it returns false'. Refute it at one input. -/
def offerCostsWrong : ChangeSpec := { name := "offerCosts", fn := fun _ => fun
  | [d1, d2] => { results := [.lit (.bool false)], args := [d1, d2] }
  | _ => none }
def OfferCostsWrongFalsely : Prop := offerCostsRow.holds Try.pinned (OpenSpec.ofChange offerCostsWrong)

/-- 'gridhalllaw3.OfferSupplies': WHATEVER THE INPUT: true; the input reads as it did. -/
def offerSuppliesSpec : ChangeSpec := { name := "offerSupplies", fn := fun _ => fun
  | [d1, d2] => { results := [.lit (.bool true)], args := [d1, d2] }
  | _ => none }
def offerSuppliesRow : OpenClaim := { program := "ytdhboohbifmbnaa", sum := "01353397592f29299ef8a74e1e6e9f575fe663bfe4260494ffa524943e66b4f0", func := "gridhall/gridhalllaw3.OfferSupplies", spec := "offerSupplies", apart := false }
def OfferSuppliesSaid : Prop := offerSuppliesRow.holds Try.pinned (OpenSpec.ofChange offerSuppliesSpec)

/-- ITS FALSE NEIGHBOUR: 'it returns false'. Refute it at one input. -/
def offerSuppliesWrong : ChangeSpec := { name := "offerSupplies", fn := fun _ => fun
  | [d1, d2] => { results := [.lit (.bool false)], args := [d1, d2] }
  | _ => none }
def OfferSuppliesWrongFalsely : Prop := offerSuppliesRow.holds Try.pinned (OpenSpec.ofChange offerSuppliesWrong)

/-- 'gridhalllaw3.DispatchCosts': WHATEVER THE INPUT: true; the input reads as it did. -/
def dispatchCostsSpec : ChangeSpec := { name := "dispatchCosts", fn := fun _ => fun
  | [d1, d2] => { results := [.lit (.bool true)], args := [d1, d2] }
  | _ => none }
def dispatchCostsRow : OpenClaim := { program := "ytdhboohbifmbnaa", sum := "01353397592f29299ef8a74e1e6e9f575fe663bfe4260494ffa524943e66b4f0", func := "gridhall/gridhalllaw3.DispatchCosts", spec := "dispatchCosts", apart := false }
def DispatchCostsSaid : Prop := dispatchCostsRow.holds Try.pinned (OpenSpec.ofChange dispatchCostsSpec)

/-- ITS FALSE NEIGHBOUR: 'it returns false'. Refute it at one input. -/
def dispatchCostsWrong : ChangeSpec := { name := "dispatchCosts", fn := fun _ => fun
  | [d1, d2] => { results := [.lit (.bool false)], args := [d1, d2] }
  | _ => none }
def DispatchCostsWrongFalsely : Prop := dispatchCostsRow.holds Try.pinned (OpenSpec.ofChange dispatchCostsWrong)

/-- 'gridhalllaw3.UnitSteps': WHATEVER THE INPUT: true; the input reads as it did. -/
def unitStepsSpec : ChangeSpec := { name := "unitSteps", fn := fun _ => fun
  | [d1, d2, d3] => { results := [.lit (.bool true)], args := [d1, d2, d3] }
  | _ => none }
def unitStepsRow : OpenClaim := { program := "ytdhboohbifmbnaa", sum := "01353397592f29299ef8a74e1e6e9f575fe663bfe4260494ffa524943e66b4f0", func := "gridhall/gridhalllaw3.UnitSteps", spec := "unitSteps", apart := false }
def UnitStepsSaid : Prop := unitStepsRow.holds Try.pinned (OpenSpec.ofChange unitStepsSpec)

/-- ITS FALSE NEIGHBOUR: 'it returns false'. Refute it at one input. -/
def unitStepsWrong : ChangeSpec := { name := "unitSteps", fn := fun _ => fun
  | [d1, d2, d3] => { results := [.lit (.bool false)], args := [d1, d2, d3] }
  | _ => none }
def UnitStepsWrongFalsely : Prop := unitStepsRow.holds Try.pinned (OpenSpec.ofChange unitStepsWrong)

/-- 'gridhalllaw3.UnitRuns': WHATEVER THE INPUT: true; the input reads as it did. -/
def unitRunsSpec : ChangeSpec := { name := "unitRuns", fn := fun _ => fun
  | [d1, d2, d3] => { results := [.lit (.bool true)], args := [d1, d2, d3] }
  | _ => none }
def unitRunsRow : OpenClaim := { program := "ytdhboohbifmbnaa", sum := "01353397592f29299ef8a74e1e6e9f575fe663bfe4260494ffa524943e66b4f0", func := "gridhall/gridhalllaw3.UnitRuns", spec := "unitRuns", apart := false }
def UnitRunsSaid : Prop := unitRunsRow.holds Try.pinned (OpenSpec.ofChange unitRunsSpec)

/-- ITS FALSE NEIGHBOUR: 'it returns false'. Refute it at one input. -/
def unitRunsWrong : ChangeSpec := { name := "unitRuns", fn := fun _ => fun
  | [d1, d2, d3] => { results := [.lit (.bool false)], args := [d1, d2, d3] }
  | _ => none }
def UnitRunsWrongFalsely : Prop := unitRunsRow.holds Try.pinned (OpenSpec.ofChange unitRunsWrong)

/- THE SECOND FORM. 'bulk': how many values and letters a reading holds, each counted each time it is reached (what is shared counts as often as it is met; a slice's spare places count too). A statement '..UptoSaid' is the law's where the arguments, and the package variables that the reading takes, are together of bulk at most 1048576: NARROWER than '..Said'. Prove '..Said' where nothing that the law and all that it calls make is longer than what came in: it says more and counts as full. Else prove '..UptoSaid'. A law counts once. -/
mutual
def uptoBulk {H : Type} : DataW H → Nat
  | .lit (.string bytes) => bytes.length + 1
  | .lit _ => 1
  | .nil => 1
  | .ptr d => uptoBulk d + 1
  | .slice elems spare => uptoBulkAll elems + uptoBulkAll spare + 1
  | .agg parts => uptoBulkAll parts + 1
  | .iface _ d => uptoBulk d + 1
  | .map entries => uptoBulkEntries entries + 1
  | .held _ => 1
def uptoBulkAll {H : Type} : List (DataW H) → Nat
  | [] => 0
  | d :: r => uptoBulk d + uptoBulkAll r
def uptoBulkEntries {H : Type} : List (Lit × DataW H) → Nat
  | [] => 0
  | x :: r => uptoBulkEntry x + uptoBulkEntries r
def uptoBulkEntry {H : Type} : Lit × DataW H → Nat
  | (.string bytes, d) => bytes.length + uptoBulk d + 1
  | (_, d) => uptoBulk d + 1
 end
def uptoSmall : (H : Type) → List (DataW H) → Bool := fun _ ds => decide (uptoBulkAll ds ≤ 1048576)
def OpenSpec.upto (s : _root_.Go.ChangeSpec) : _root_.Go.OpenSpec := { _root_.Go.OpenSpec.ofChange s with cond := some uptoSmall }

/-- 'gridhalllaw3.OfferLists', WHERE WHAT IT READS IS OF BULK AT MOST 1048576: true; the input reads as it did. -/
def offerListsUptoRow : OpenClaim := { program := "ytdhboohbifmbnaa", sum := "01353397592f29299ef8a74e1e6e9f575fe663bfe4260494ffa524943e66b4f0", func := "gridhall/gridhalllaw3.OfferLists", spec := "offerLists", apart := false, narrowed := true }
def OfferListsUptoSaid : Prop := offerListsUptoRow.holds Try.pinned (OpenSpec.upto offerListsSpec)

/-- 'gridhalllaw3.OfferCosts', WHERE WHAT IT READS IS OF BULK AT MOST 1048576: true; the input reads as it did. -/
def offerCostsUptoRow : OpenClaim := { program := "ytdhboohbifmbnaa", sum := "01353397592f29299ef8a74e1e6e9f575fe663bfe4260494ffa524943e66b4f0", func := "gridhall/gridhalllaw3.OfferCosts", spec := "offerCosts", apart := false, narrowed := true }
def OfferCostsUptoSaid : Prop := offerCostsUptoRow.holds Try.pinned (OpenSpec.upto offerCostsSpec)

/-- 'gridhalllaw3.OfferSupplies', WHERE WHAT IT READS IS OF BULK AT MOST 1048576: true; the input reads as it did. -/
def offerSuppliesUptoRow : OpenClaim := { program := "ytdhboohbifmbnaa", sum := "01353397592f29299ef8a74e1e6e9f575fe663bfe4260494ffa524943e66b4f0", func := "gridhall/gridhalllaw3.OfferSupplies", spec := "offerSupplies", apart := false, narrowed := true }
def OfferSuppliesUptoSaid : Prop := offerSuppliesUptoRow.holds Try.pinned (OpenSpec.upto offerSuppliesSpec)

/-- 'gridhalllaw3.DispatchCosts', WHERE WHAT IT READS IS OF BULK AT MOST 1048576: true; the input reads as it did. -/
def dispatchCostsUptoRow : OpenClaim := { program := "ytdhboohbifmbnaa", sum := "01353397592f29299ef8a74e1e6e9f575fe663bfe4260494ffa524943e66b4f0", func := "gridhall/gridhalllaw3.DispatchCosts", spec := "dispatchCosts", apart := false, narrowed := true }
def DispatchCostsUptoSaid : Prop := dispatchCostsUptoRow.holds Try.pinned (OpenSpec.upto dispatchCostsSpec)

/-- 'gridhalllaw3.UnitSteps', WHERE WHAT IT READS IS OF BULK AT MOST 1048576: true; the input reads as it did. -/
def unitStepsUptoRow : OpenClaim := { program := "ytdhboohbifmbnaa", sum := "01353397592f29299ef8a74e1e6e9f575fe663bfe4260494ffa524943e66b4f0", func := "gridhall/gridhalllaw3.UnitSteps", spec := "unitSteps", apart := false, narrowed := true }
def UnitStepsUptoSaid : Prop := unitStepsUptoRow.holds Try.pinned (OpenSpec.upto unitStepsSpec)

/-- 'gridhalllaw3.UnitRuns', WHERE WHAT IT READS IS OF BULK AT MOST 1048576: true; the input reads as it did. -/
def unitRunsUptoRow : OpenClaim := { program := "ytdhboohbifmbnaa", sum := "01353397592f29299ef8a74e1e6e9f575fe663bfe4260494ffa524943e66b4f0", func := "gridhall/gridhalllaw3.UnitRuns", spec := "unitRuns", apart := false, narrowed := true }
def UnitRunsUptoSaid : Prop := unitRunsUptoRow.holds Try.pinned (OpenSpec.upto unitRunsSpec)

end Rows
end Go.Proofs.Ytdhboohbifmbnaa
