/- OfferSupplies holds: for every offer and price Supply and Profit return the best powers and the profit; no condition. -/
import Derived.Test.YtdhboohbifmbnaaBOfferSupplies
import Derived.Test.YtdhboohbifmbnaaRowOfferSupplies
namespace Go.Proofs.Ytdhboohbifmbnaa.FOfferSupplies
open Go.RowKit Go.Proofs.YtdhboohbifmbnaaW.PrintWords Go.Proofs.YtdhboohbifmbnaaW.PrintMore Go.Proofs.Ytdhboohbifmbnaa.Evs Go.Proofs.Ytdhboohbifmbnaa.POfferSupplies Go.Proofs.Ytdhboohbifmbnaa.BOfferSupplies
set_option linter.unusedVariables false
set_option linter.unusedSimpArgs false
theorem earn_bd {l : List St} (h : Val l) (p : Int) (hp : -2000000 ≤ p ∧ p ≤ 2000000) (j : Nat) (hj : j ≤ l.length) :
    -200000000000 ≤ p * tot l j ∧ p * tot l j ≤ 200000000000 ∧ -1200000000000 ≤ cst l (tot l j) l.length ∧ cst l (tot l j) l.length ≤ 1200000000000 := by
  have hb := h.bd j hj
  have hm := mul_bd (A := 100000) (B := 2000000) hb.1 hb.2 hp.1 hp.2
  have hc := cst_bd h (tot l j) l.length (Nat.le_refl _)
  have := h.len
  omega
def profR (s : ByteArray) (l : List St) (p : Int) : Int × Int := if offErr s l = 0 then (if -2000000 ≤ p ∧ p ≤ 2000000 then (bst l p l.length, 0) else (0, 4)) else (0, offErr s l)
theorem Profit_ev (s : ByteArray) (l : List St) (p : Int) : Evt (fun k => offer_Profit.f k s l p) (profR s l p) := by
  simp only [offer_Profit.f]
  refine Evt.bind (Supply_ev s l p) ?_
  unfold supR profR
  by_cases h : offErr s l = 0
  · simp only [if_pos h]
    have hv := (offErr_val h).2
    by_cases c : -2000000 ≤ p ∧ p ≤ 2000000
    · simp only [if_pos c]
      refine Evt.ite_pos trivial (Evt.bind (Cost_ev s l _) ?_)
      obtain ⟨A, hA, e1, e2⟩ := sup_at hv p l.length (Nat.le_refl _)
      have hb := hv.bd A hA
      have ht := tot_le hv hA (Nat.le_refl _)
      have e3 : costR s l (supL l p l.length) = (cst l (tot l A) l.length, 0) := by
        unfold costR
        rw [if_pos h, e1]
        exact if_pos ⟨hb.1, ht⟩
      have he := earn_bd hv p c A hA
      have hvl := vl_eq l p A
      rw [← cost_at hv A hA] at hvl
      rw [e3, e1, wrap64_of (x := p * tot l A) (by omega) (by omega)]
      simp only []
      rw [wrap64_of (by omega) (by omega), hvl, ← e2]
      exact Evt.pure _
    · simp only [if_neg c]
      exact Evt.ite_neg (by decide) (Evt.pure _)
  · simp only [if_neg h]
    exact Evt.pure _
theorem law_l0 (s : ByteArray) (l : List St) (h : Val l) (p : Int) (hp : -2000000 ≤ p ∧ p ≤ 2000000) (a b c : Int) (ha : a = supL l p l.length) (hb : b = supM l p l.length) (hc : c = bst l p l.length) :
    ∀ n, n ≤ l.length → Evt (fun k => gridhalllaw3_OfferSupplies.l0 k p a b 0 c 0 (bst l p n) (supL l p n) (supM l p n) ((n + 1 : Nat) : Int) s l) true := by
  have hl := h.len
  refine down ?_ ?_
  · refine Evt.succ ?_
    simp only [gridhalllaw3_OfferSupplies.l0]
    exact Evt.ite_neg (by omega) (Evt.ite_pos trivial (Evt.ite_pos trivial (Evt.ite_pos ha (Evt.ite_pos hb (Evt.of_eq (by simp [hc]))))))
  · intro n hn ih
    refine Evt.succ ?_
    simp only [gridhalllaw3_OfferSupplies.l0]
    refine Evt.ite_pos (by omega) (Evt.bind (Before_ev s l (n + 1) (by omega) (h.pre.mono (by omega)) (by omega)) (Evt.bind (refCost_ev s l h _) ?_))
    have he := earn_bd h p hp (n + 1) (by omega)
    have hvl := vl_eq l p (n + 1)
    rw [← cost_at h (n + 1) (by omega)] at hvl
    rw [wrap64_of (x := p * tot l (n + 1)) (by omega) (by omega), wrap64_of (x := p * tot l (n + 1) - cst l (tot l (n + 1)) l.length) (by omega) (by omega), hvl, wrap64_nat (by omega)]
    have hr := h.rng n hn
    have hle := vl_le h p n (by omega)
    simp only [supL, supM, bst] at ih
    have hs : ∀ m, m < n → pr l m ≤ pr l n := fun m hm => srt_le h (by omega) hn
    by_cases c1 : pr l n < p
    · have h1 : ∀ m, m < n + 1 → pr l m < p := fun m hm => by
        by_cases e : m = n
        · rw [e]
          exact c1
        · have := hs m (by omega)
          omega
      have e1 := all_lt l p (n + 1) h1
      have e2 := all_le l p (n + 1) (fun m hm => by have := h1 m hm; omega)
      have e3 := all_le l p n (fun m hm => by have := h1 m (by omega); omega)
      have hpos : 0 < (p - pr l n) * pw l n := Int.mul_pos (by omega) (by omega)
      have e4 : vl l p (n + 1) = bst l p n + (p - pr l n) * pw l n := by simp only [vl]; omega
      simp only [supL, supM, bst] at e1 e2
      rw [if_pos c1] at e1
      rw [if_pos c1, if_pos c1, if_pos (show pr l n ≤ p by omega)] at ih
      rw [if_pos (show pr l n ≤ p by omega)] at e2
      refine Evt.ite_pos (by omega) ?_
      rw [e4]
      rw [e1, e2.1] at ih
      exact ih
    · by_cases c2 : pr l n = p
      · have h1 : ∀ m, m < n + 1 → pr l m ≤ p := fun m hm => by
          by_cases e : m = n
          · rw [e]
            omega
          · have := hs m (by omega)
            omega
        have e2 := all_le l p (n + 1) h1
        have e3 := all_le l p n (fun m hm => h1 m (by omega))
        have e4 : vl l p (n + 1) = bst l p n := by
          simp only [vl]
          rw [c2, Int.sub_self, Int.zero_mul]
          omega
        simp only [supM] at e2
        rw [if_pos (show pr l n ≤ p by omega)] at e2
        rw [if_neg c1, if_neg c1, if_pos (show pr l n ≤ p by omega), e2.1] at ih
        rw [e4]
        exact Evt.ite_neg (by omega) (Evt.ite_pos rfl ih)
      · have hneg : (p - pr l n) * pw l n < 0 := Int.mul_neg_of_neg_of_pos (by omega) (by omega)
        have e4 : vl l p (n + 1) < bst l p n := by simp only [vl]; omega
        rw [if_neg c1, if_neg c1, if_neg (show ¬ pr l n ≤ p by omega)] at ih
        exact Evt.ite_neg (by omega) (Evt.ite_neg (by omega) ih)
theorem j0 (s : ByteArray) (l : List St) (p : Int) (b : Bool) (hb : b = false) : Evt (fun k => gridhalllaw3_OfferSupplies.j0 k p b s l) true := by
  subst hb
  refine Evt.succ ?_
  simp only [gridhalllaw3_OfferSupplies.j0]
  refine Evt.ite_neg (by simp) (Evt.bind (Supply_ev s l p) (Evt.bind (Profit_ev s l p) (Evt.bind (OfferError_ev s l) ?_)))
  have err : ∀ e : Int, e ≠ 0 → supR s l p = (0, 0, e) → profR s l p = (0, e) → Evt (fun k => gridhalllaw3_OfferSupplies.j2 k p (supR s l p).1 (supR s l p).2.1 (supR s l p).2.2 (profR s l p).1 (profR s l p).2 e s l) true := by
    intro e he h1 h2
    rw [h1, h2]
    refine Evt.succ ?_
    simp only [gridhalllaw3_OfferSupplies.j2]
    exact Evt.ite_neg he (Evt.ite_pos trivial (Evt.ite_pos trivial (Evt.ite_pos trivial (Evt.ite_pos trivial (Evt.of_eq rfl)))))
  by_cases h : offErr s l = 0
  · refine Evt.ite_pos h ?_
    simp only [in_eq, Option.bind_some]
    refine Evt.succ ?_
    simp only [gridhalllaw3_OfferSupplies.j1]
    by_cases c : -2000000 ≤ p ∧ p ≤ 2000000
    · refine Evt.ite_neg (by rw [decide_eq_true c]; simp) (Evt.succ ?_)
      simp only [gridhalllaw3_OfferSupplies.j2, h]
      refine Evt.ite_pos trivial ?_
      have e1 : supR s l p = (supL l p l.length, supM l p l.length, 0) := by
        unfold supR
        rw [if_pos h, if_pos c]
      have e2 : profR s l p = (bst l p l.length, 0) := by
        unfold profR
        rw [if_pos h, if_pos c]
      rw [e1, e2]
      exact law_l0 s l (offErr_val h).2 p c _ _ _ rfl rfl rfl 0 (by omega)
    · refine Evt.ite_pos (by rw [decide_eq_false c]; rfl) (err 4 (by omega) ?_ ?_)
      · unfold supR
        rw [if_pos h, if_neg c]
      · unfold profR
        rw [if_pos h, if_neg c]
  · refine Evt.ite_neg h (Evt.succ ?_)
    simp only [gridhalllaw3_OfferSupplies.j1]
    refine Evt.ite_neg (by simp) (err _ h ?_ ?_)
    · unfold supR
      rw [if_neg h]
    · unfold profR
      rw [if_neg h]
theorem pure : Go.Proofs.Ytdhboohbifmbnaa.ROfferSupplies.Pure := by
  intro s l p _ _ _
  refine Evt.ex ?_
  simp only [gridhalllaw3_OfferSupplies.f, gridhalllaw3_two.f, Option.bind_some]
  refine Evt.bind (Supply_ev _ _ _) ?_
  have e : supR (⟨#[65]⟩ : ByteArray) [(⟨10, 5⟩ : St), ⟨10, 8⟩] 8 = (10, 20, 0) := by decide +kernel
  rw [e]
  exact Evt.ite_pos rfl (Evt.ite_pos rfl (j0 s l p _ rfl))
theorem OfferSupplies_holds : Rows.OfferSuppliesSaid := Go.Proofs.Ytdhboohbifmbnaa.ROfferSupplies.said pure
#print axioms OfferSupplies_holds
end Go.Proofs.Ytdhboohbifmbnaa.FOfferSupplies
