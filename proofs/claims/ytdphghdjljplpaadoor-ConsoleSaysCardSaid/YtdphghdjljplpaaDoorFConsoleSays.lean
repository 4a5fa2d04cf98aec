/- Check accepts a command just when the table says so; the listed library tables are tied to the program's text. -/
import Derived.Test.YtdphghdjljplpaaDoorBConsoleSays
import Derived.Test.YtdphghdjljplpaaDoorRowConsoleSays
import Derived.Test.YtdphghdjljplpaaDoorTie
import Derived.Test.YtdphghdjljplpaaDoorCards
namespace Go.Proofs.YtdphghdjljplpaaDoor.FConsoleSays
open Go.RowKit Go.Proofs.YtdphghdjljplpaaDoorW.PrintWords Go.Proofs.YtdphghdjljplpaaDoorW.PrintMore Go.Proofs.YtdphghdjljplpaaDoor.Evs Go.Proofs.YtdphghdjljplpaaDoor.PConsoleSays Go.Proofs.YtdphghdjljplpaaDoor.BConsoleSays
set_option linter.unusedVariables false
set_option linter.unusedSectionVars false
set_option linter.unusedSimpArgs false
theorem pure : Go.Proofs.YtdphghdjljplpaaDoor.RConsoleSays.Pure := by
  intro v s n
  intros
  exact Evt.ex (law_f v s n (by omega))
/-- The row, its listed variables as they read when the call begins. -/
theorem row : Rows.ConsoleSaysSaid := Go.Proofs.YtdphghdjljplpaaDoor.RConsoleSays.said pure
/-- The tied card: the row, what it lists tied to the program's text. -/
theorem ConsoleSays_holds : Rows.ConsoleSaysCardSaid :=
  Claim7.holds_tied_plain_at .later [] [.data, .data, .data] true (true, "3551614de5e5a7d8cdce65f6760abc2252ecaf185ab5e2b33eb5f05a46218035") false
    row (fun _ h => by cases h) (by kernel_rfl) (fun _ h => by cases h) consoleSays_row_tie rfl ⟨rfl, rfl⟩ (by kernel_rfl) rfl
    (fun f fn hf hfn => by
      obtain rfl : f = 3 := Option.some.inj ((show Tryd.prog.funcNamed "gridhall/gridhalllaw4.ConsoleSays" = some 3 by kernel_rfl).symm.trans hf) |>.symm
      obtain rfl : fn = Tryd.f3 := (Option.some.inj (Tryd.func3.symm.trans hfn)).symm
      exact ⟨by kernel_rfl, fun j t ht => by
        rw [Tryd.params3] at ht
        have h3 : t = 23 := by
          rcases j with _ | j
          · simpa using ht.symm
          · simp at ht
        subst h3
        exact (show Tryd.prog.wantsStandIn 23 = false by kernel_rfl)⟩)
    (by kernel_rfl)
#print axioms ConsoleSays_holds
end Go.Proofs.YtdphghdjljplpaaDoor.FConsoleSays
