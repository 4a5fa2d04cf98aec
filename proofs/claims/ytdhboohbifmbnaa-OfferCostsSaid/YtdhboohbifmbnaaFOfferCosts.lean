/- OfferCosts holds: for every offer and power Check, Total, Cost and Marginal return what the reference returns; no condition. -/
import Derived.Test.YtdhboohbifmbnaaBOfferCosts
import Derived.Test.YtdhboohbifmbnaaRowOfferCosts
namespace Go.Proofs.Ytdhboohbifmbnaa.FOfferCosts
open Go.RowKit Go.Proofs.YtdhboohbifmbnaaW.PrintWords Go.Proofs.YtdhboohbifmbnaaW.PrintMore Go.Proofs.Ytdhboohbifmbnaa.Evs Go.Proofs.Ytdhboohbifmbnaa.POfferCosts Go.Proofs.Ytdhboohbifmbnaa.BOfferCosts
set_option linter.unusedVariables false
set_option linter.unusedSimpArgs false
theorem Total_ev (s : ByteArray) (l : List St) : Evt (fun k => offer_Total.f k s l) (if offErr s l = 0 then (tot l l.length, 0) else (0, offErr s l)) := by
  simp only [offer_Total.f]
  refine Evt.bind (Check_ev s l) ?_
  by_cases h : offErr s l = 0
  · rw [if_pos h]
    exact Evt.ite_pos h (Evt.bind (Most_ev s l (offErr_val h).2) (Evt.pure _))
  · rw [if_neg h]
    exact Evt.ite_neg h (Evt.pure _)
theorem j3_err (s : ByteArray) (l : List St) (p e n f a b g : Int) (he : e ≠ 0) (h : f = e ∧ g = e ∧ n = 0 ∧ a = 0 ∧ b = 0) : Evt (fun k => gridhalllaw3_OfferCosts.j3 k p e n f a b g s l) true := by
  obtain ⟨rfl, rfl, rfl, rfl, rfl⟩ := h
  refine Evt.succ ?_
  simp only [gridhalllaw3_OfferCosts.j3]
  refine Evt.ite_neg he (Evt.ite_pos ?_ (Evt.ite_pos ?_ (Evt.ite_pos ?_ (Evt.ite_pos ?_ ?_))))
  all_goals first | rfl | trivial | exact Evt.of_eq rfl
theorem j3_ok (s : ByteArray) (l : List St) (h : Val l) (p : Int) (h0 : 0 ≤ p) (h1 : p ≤ tot l l.length) : Evt (fun k => gridhalllaw3_OfferCosts.j3 k p 0 (cst l p l.length) 0 (margA l p l.length 0) (untF l p l.length 0) 0 s l) true := by
  have hb := h.bd l.length (Nat.le_refl _)
  refine Evt.succ ?_
  simp only [gridhalllaw3_OfferCosts.j3]
  refine Evt.ite_pos trivial (Evt.ite (fun c => ?_) (fun c => ?_))
  · rw [wrap64_of (x := p - 1) (by omega) (by omega)]
    refine Evt.bind (Unit_ev s l h (p - 1)) (Evt.ite_pos trivial (Evt.ite_pos trivial (Evt.bind (refCost_ev s l h p) (Evt.ite_pos rfl (Evt.ite_pos (marg_unit h p c h1) (Evt.bind (Unit_ev s l h p) ?_))))))
    exact Evt.of_eq (by simp)
  · have e : p = 0 := by omega
    subst e
    refine Evt.ite_pos trivial (Evt.ite_pos trivial (Evt.bind (refCost_ev s l h 0) (Evt.ite_pos rfl (Evt.ite_pos (margA_zero h _ _ (by omega)) (Evt.bind (Unit_ev s l h 0) ?_)))))
    exact Evt.of_eq (by simp)
theorem pure : Go.Proofs.Ytdhboohbifmbnaa.ROfferCosts.Pure := by
  intro s l p _ _ hp
  have hp := i64_wf hp
  refine Evt.ex ?_
  simp only [gridhalllaw3_OfferCosts.f]
  refine Evt.bind costs_ev (Evt.ite_pos rfl (Evt.bind (OfferError_ev s l) (Evt.bind (Total_ev s l) (Evt.bind (Cost_ev s l p) (Evt.bind (Marg_ev s l p) (Evt.bind (Check_ev s l) (Evt.ite_pos rfl ?_)))))))
  refine Evt.succ ?_
  simp only [gridhalllaw3_OfferCosts.j0]
  by_cases h : offErr s l = 0
  · have hv := (offErr_val h).2
    have hb := hv.bd l.length (Nat.le_refl _)
    simp only [h, if_true, margR, costR]
    refine Evt.ite_neg (by simp) ?_
    refine Evt.bind (All_ev s l hv) (Evt.succ ?_)
    simp only [gridhalllaw3_OfferCosts.j1]
    refine Evt.ite_neg (by simp) (Evt.ite_pos trivial (Evt.bind (All_ev s l hv) ?_))
    simp only [in_eq, Option.bind_some]
    refine Evt.succ ?_
    simp only [gridhalllaw3_OfferCosts.j2]
    by_cases c : 0 ≤ p ∧ p ≤ tot l l.length
    · refine Evt.ite_neg (by simp [c]) ?_
      simp only [if_pos c]
      exact j3_ok s l hv p c.1 c.2
    · refine Evt.ite_pos (by rw [decide_eq_false c]; rfl) ?_
      simp only [if_neg c]
      exact j3_err s l p 4 0 4 0 0 4 (by omega) ⟨rfl, rfl, rfl, rfl, rfl⟩
  · simp only [h, if_false, margR, costR]
    refine Evt.ite_neg (by simp) (Evt.succ ?_)
    simp only [gridhalllaw3_OfferCosts.j1]
    refine Evt.ite_neg (by simp) (Evt.ite_neg h (Evt.succ ?_))
    simp only [gridhalllaw3_OfferCosts.j2]
    refine Evt.ite_neg (by simp) ?_
    exact j3_err s l p _ _ _ _ _ _ h ⟨rfl, rfl, rfl, rfl, rfl⟩
theorem OfferCosts_holds : Rows.OfferCostsSaid := Go.Proofs.Ytdhboohbifmbnaa.ROfferCosts.said pure
#print axioms OfferCosts_holds
end Go.Proofs.Ytdhboohbifmbnaa.FOfferCosts
