/- The law holds: the examples at its head, then its loop. -/
import Derived.Test.YtdphghdjljplpaaETopHours
import Derived.Test.YtdphghdjljplpaaRowTopHours
namespace Go.Proofs.Ytdphghdjljplpaa.FTopHours
open Go.RowKit Go.Proofs.YtdphghdjljplpaaW.PrintWords Go.Proofs.YtdphghdjljplpaaW.PrintMore Go.Proofs.Ytdphghdjljplpaa.Evs Go.Proofs.Ytdphghdjljplpaa.PTopHours Go.Proofs.Ytdphghdjljplpaa.BTopHours Go.Proofs.Ytdphghdjljplpaa.CTopHours Go.Proofs.Ytdphghdjljplpaa.DTopHours Go.Proofs.Ytdphghdjljplpaa.ZTopHours Go.Proofs.Ytdphghdjljplpaa.XTopHours Go.Proofs.Ytdphghdjljplpaa.ETopHours
set_option linter.unusedVariables false
set_option linter.unusedSectionVars false
set_option linter.unusedSimpArgs false
theorem Evt.of_mono {α : Type} {g : Nat → Option α} (hm : ∀ k r, g k = some r → g (k + 1) = some r) {K : Nat} {r : α} (h : g K = some r) : Evt g r := by
  refine ⟨K, fun k hk => ?_⟩
  obtain ⟨d, rfl⟩ : ∃ d, k = K + d := ⟨k - K, by omega⟩
  induction d with
  | zero => exact h
  | succ d ih => exact hm _ _ (ih (by omega))
theorem exC_ev : Evt (fun k => hours_Change.f k [⟨⟨#[65]⟩, [⟨10, 5⟩, ⟨10, 8⟩]⟩, ⟨⟨#[66]⟩, [⟨10, 5⟩, ⟨10, 8⟩]⟩] [10, 10] 22 2) ([2, 0], 16, 0) := Evt.of_mono (fun k r h => hours_Change.mono _ _ _ _ k r h) (K := 60) (by decide +kernel)
theorem exB_ev : Evt (fun k => dispatch_Best.f k [⟨⟨#[65]⟩, [⟨10, 5⟩, ⟨10, 8⟩]⟩] 12) ([12], 66, 0) := Evt.of_mono (fun k r h => dispatch_Best.mono _ _ k r h) (K := 60) (by decide +kernel)
theorem exE_ev : Evt (fun k => hours_Errors.f k [5] [7]) (2, 2, 4, 0) := Evt.of_mono (fun k r h => hours_Errors.mono _ _ k r h) (K := 60) (by decide +kernel)
theorem law_f (l : List Of) (f a : List Int) : Evt (fun k => gridhalltop_TopHours.f k l f a) true := by
  simp only [gridhalltop_TopHours.f, gridhalltop_bTwo.f, Option.bind_some]
  refine Evt.bind (f := fun k bt237 => if bt237.2.2 = 0 then (gridhalltop_TopHours.j0 k l f a (bt237.2.1 != 16)) else (gridhalltop_TopHours.j0 k l f a true)) exC_ev ?_
  exact Evt.ite_pos rfl (th_j0 l f a exB_ev exE_ev _ rfl)
theorem pure : Go.Proofs.Ytdphghdjljplpaa.RTopHours.Pure := by
  intro l f a
  intros
  exact Evt.ex (law_f l f a)
theorem TopHours_holds : Rows.TopHoursSaid := Go.Proofs.Ytdphghdjljplpaa.RTopHours.said pure
#print axioms TopHours_holds
end Go.Proofs.Ytdphghdjljplpaa.FTopHours
