/- Names holds: the constants have the values of the document, and Complete finds the eight verbs; there is no argument and no condition. -/
import Derived.Test.YtpmaiofgnbgboaaPNamesx1
namespace Go.Proofs.Ytpmaiofgnbgboaa.Pure
open Go.RowKit Go.Proofs.Ytpmaiofgnbgboaa.PNames Go.Proofs.YtpmaiofgnbgboaaW.PrintWords Go.Proofs.YtpmaiofgnbgboaaW.PrintLast

/-- YOURS: ∃ k, gridhalllaw4_Names.f k  = some true
What it reaches (each with k first where it has rounds; `.mono`: more rounds tell the same; `.l0`, ..: its loops, with `.mono_l`): console_verbs.f, stringslite_HasPrefix.f, strings_HasPrefix.f, console_Complete.f, gridhalllaw4_Names.f -/
theorem Names : gridhalllaw4_Names.Pure := by
  exact ⟨20, by decide +kernel⟩

end Go.Proofs.Ytpmaiofgnbgboaa.Pure
