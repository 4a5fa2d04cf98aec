/- ReserveBest holds: for every list of units, demand and reserve the cost of Best is the least one of all lists of powers that serve the demand and hold the reserve; the statement's own bounds (at most three units of at most eight), no other condition. -/
import Derived.Test.YtekpnmeikibioaaEReserveBest
import Derived.Test.YtekpnmeikibioaaRowReserveBest
namespace Go.Proofs.Ytekpnmeikibioaa.FReserveBest
open Go.RowKit Go.Proofs.YtekpnmeikibioaaW.PrintWords Go.Proofs.YtekpnmeikibioaaW.PrintMore Go.Proofs.Ytekpnmeikibioaa.Evs Go.Proofs.Ytekpnmeikibioaa.PReserveBest Go.Proofs.Ytekpnmeikibioaa.BReserveBest Go.Proofs.Ytekpnmeikibioaa.CReserveBest Go.Proofs.Ytekpnmeikibioaa.DReserveBest Go.Proofs.Ytekpnmeikibioaa.ZReserveBest Go.Proofs.Ytekpnmeikibioaa.XReserveBest Go.Proofs.Ytekpnmeikibioaa.EReserveBest
set_option linter.unusedVariables false
set_option linter.unusedSectionVars false
set_option linter.unusedSimpArgs false
theorem Evt.of_mono {α : Type} {g : Nat → Option α} (hm : ∀ k r, g k = some r → g (k + 1) = some r) {K : Nat} {r : α} (h : g K = some r) : Evt g r := by
  refine ⟨K, fun k hk => ?_⟩
  obtain ⟨d, rfl⟩ : ∃ d, k = K + d := ⟨k - K, by omega⟩
  induction d with
  | zero => exact h
  | succ d ih => exact hm _ _ (ih (by omega))
def twoU : List Un := [⟨⟨⟨#[65]⟩, [⟨10, 5⟩]⟩, 10⟩, ⟨⟨⟨#[66]⟩, [⟨10, 8⟩]⟩, 10⟩]
theorem two_ev : Evt (fun k => reserve_Best.f k twoU 8 12) ([8, 0], 40, 0) := Evt.of_mono (fun k r h => reserve_Best.mono twoU 8 12 k r h) (K := 60) (by decide +kernel)
theorem law_f (u : List Un) (hl : u.length * 48 ≤ 140737488351232) (D need : Int) : Evt (fun k => gridhalllaw3_ReserveBest.f k u D need) true := by
  simp only [gridhalllaw3_ReserveBest.f]
  refine Evt.bind (f := fun k bt302 => if bt302.2.2 = 0 then (gridhalllaw3_ReserveBest.j0 k D need (bt302.2.1 != 40) u) else (gridhalllaw3_ReserveBest.j0 k D need true u)) two_ev ?_
  exact Evt.ite_pos rfl (lw_j0 u hl D need _ rfl)
theorem pure : Go.Proofs.Ytekpnmeikibioaa.RReserveBest.Pure := by
  intro u D need hl
  intros
  exact Evt.ex (law_f u hl.1 D need)
theorem ReserveBest_holds : Rows.ReserveBestSaid := Go.Proofs.Ytekpnmeikibioaa.RReserveBest.said pure
#print axioms ReserveBest_holds
end Go.Proofs.Ytekpnmeikibioaa.FReserveBest
