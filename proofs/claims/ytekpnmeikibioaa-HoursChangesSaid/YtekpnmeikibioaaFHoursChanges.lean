/- The law holds: the examples at its head, then its loops. -/
import Derived.Test.YtekpnmeikibioaaEHoursChanges
import Derived.Test.YtekpnmeikibioaaRowHoursChanges
namespace Go.Proofs.Ytekpnmeikibioaa.FHoursChanges
open Go.RowKit Go.Proofs.YtekpnmeikibioaaW.PrintWords Go.Proofs.YtekpnmeikibioaaW.PrintMore Go.Proofs.Ytekpnmeikibioaa.Evs Go.Proofs.Ytekpnmeikibioaa.PHoursChanges Go.Proofs.Ytekpnmeikibioaa.BHoursChanges Go.Proofs.Ytekpnmeikibioaa.CHoursChanges Go.Proofs.Ytekpnmeikibioaa.DHoursChanges Go.Proofs.Ytekpnmeikibioaa.ZHoursChanges Go.Proofs.Ytekpnmeikibioaa.XHoursChanges Go.Proofs.Ytekpnmeikibioaa.EHoursChanges
set_option linter.unusedVariables false
set_option linter.unusedSectionVars false
set_option linter.unusedSimpArgs false
theorem Evt.of_mono {α : Type} {g : Nat → Option α} (hm : ∀ k r, g k = some r → g (k + 1) = some r) {K : Nat} {r : α} (h : g K = some r) : Evt g r := by
  refine ⟨K, fun k hk => ?_⟩
  obtain ⟨d, rfl⟩ : ∃ d, k = K + d := ⟨k - K, by omega⟩
  induction d with
  | zero => exact h
  | succ d ih => exact hm _ _ (ih (by omega))
def twoC : List Of := [⟨⟨#[65]⟩, [⟨10, 5⟩, ⟨10, 8⟩]⟩, ⟨⟨#[66]⟩, [⟨10, 5⟩, ⟨10, 8⟩]⟩]
theorem two_ev : Evt (fun k => hours_Change.f k twoC [10, 10] 22 2) ([2, 0], 16, 0) := Evt.of_mono (fun k r h => hours_Change.mono twoC [10, 10] 22 2 k r h) (K := 60) (by decide +kernel)
theorem law_f (l : List Of) (p : List Int) (D M : Int) (hlen : l.length ≤ 4000000000000) : Evt (fun k => gridhalllaw3_HoursChanges.f k l p D M) true := by
  simp only [gridhalllaw3_HoursChanges.f, gridhalllaw3_two.f, Option.bind_some]
  refine Evt.bind (f := fun k bt257 => if bt257.2.2 = 0 then (if bt257.2.1 = 16 then (gridhalllaw3_HoursChanges.j0 k D ((bt257.1.length : Int) != 2) l p M) else (gridhalllaw3_HoursChanges.j0 k D true l p M)) else (gridhalllaw3_HoursChanges.j0 k D true l p M)) two_ev ?_
  exact Evt.ite_pos rfl (Evt.ite_pos rfl (lw_j0 l p D M hlen _ rfl))
theorem pure : Go.Proofs.Ytekpnmeikibioaa.RHoursChanges.Pure := by
  intro l p D M
  intros
  exact Evt.ex (law_f l p D M (by omega))
theorem HoursChanges_holds : Rows.HoursChangesSaid := Go.Proofs.Ytekpnmeikibioaa.RHoursChanges.said pure
#print axioms HoursChanges_holds
end Go.Proofs.Ytekpnmeikibioaa.FHoursChanges
