/- DispatchCosts holds: for every list of offers and powers Cost returns the cost of all powers and their sum, or the reference's error; no condition. -/
import Derived.Test.YtdhboohbifmbnaaBDispatchCosts
import Derived.Test.YtdhboohbifmbnaaRowDispatchCosts
namespace Go.Proofs.Ytdhboohbifmbnaa.FDispatchCosts
open Go.RowKit Go.Proofs.YtdhboohbifmbnaaW.PrintWords Go.Proofs.YtdhboohbifmbnaaW.PrintMore Go.Proofs.Ytdhboohbifmbnaa.Evs Go.Proofs.Ytdhboohbifmbnaa.PDispatchCosts Go.Proofs.Ytdhboohbifmbnaa.BDispatchCosts
set_option linter.unusedVariables false
set_option linter.unusedSimpArgs false
def dcR (l : List Of) (ps : List Int) : Nat → Nat → Int → Int → Int × Int × Int
  | 0, _, c, s => (c, s, 0)
  | d + 1, n, c, s => if 0 ≤ pn ps n ∧ pn ps n ≤ lastT l n then dcR l ps d (n + 1) (c + cstO l n (pn ps n)) (s + pn ps n) else (0, 0, 4)
theorem dispatch_l0 (l : List Of) (h : Vals l) (ps : List Int) (hp : ps.length = l.length) : ∀ n, n ≤ l.length → ∀ c s : Int, -1200000000000 * (n : Int) ≤ c → c ≤ 1200000000000 * (n : Int) → 0 ≤ s → s ≤ 100000 * (n : Int) →
    Evt (fun k => dispatch_Cost.l0 k ps c s l (l.length : Int) (n : Int)) (dcR l ps (l.length - n) n c s) := by
  have hl := h.len
  refine down ?_ ?_
  · intro c s _ _ _ _
    refine Evt.succ ?_
    simp only [dispatch_Cost.l0, Nat.sub_self, dcR]
    exact Evt.ite_neg (by omega) (Evt.pure _)
  · intro n hn ih c s h1 h2 h3 h4
    obtain ⟨d, hd⟩ : ∃ d, l.length - n = d + 1 := ⟨l.length - n - 1, by omega⟩
    rw [show l.length - (n + 1) = d by omega] at ih
    rw [hd]
    refine Evt.succ ?_
    simp only [dispatch_Cost.l0]
    refine Evt.ite_pos (by omega) (Evt.ite_pos (by omega) (Evt.ite_pos (by omega) (Evt.ite_pos (by omega) ?_)))
    simp only [rdO0, rdO1, rdp]
    refine Evt.bind (Cost_ev _ _ _) ?_
    have ho := (h.one n hn).2.2.1
    have hc := cstO_bd h n hn (pn ps n)
    have ht := lastT_bd h n hn
    by_cases c1 : 0 ≤ pn ps n ∧ pn ps n ≤ lastT l n
    · have e : costR (nmO l n) (stO l n) (pn ps n) = (cstO l n (pn ps n), 0) := by
        unfold costR
        rw [if_pos ho]
        exact if_pos c1
      rw [e]
      have e2 : dcR l ps (d + 1) n c s = dcR l ps d (n + 1) (c + cstO l n (pn ps n)) (s + pn ps n) := by simp only [dcR]; exact if_pos c1
      rw [e2, wrap64_of (x := c + cstO l n (pn ps n)) (by omega) (by omega), wrap64_of (x := s + pn ps n) (by omega) (by omega), wrap64_nat (by omega)]
      exact Evt.ite_pos rfl (ih _ _ (by omega) (by omega) (by omega) (by omega))
    · have e : costR (nmO l n) (stO l n) (pn ps n) = (0, 4) := by
        unfold costR
        rw [if_pos ho]
        exact if_neg c1
      rw [e]
      have e2 : dcR l ps (d + 1) n c s = (0, 0, 4) := by simp only [dcR]; exact if_neg c1
      rw [e2]
      exact Evt.ite_neg (by decide) (Evt.pure _)
def dispR (l : List Of) (ps : List Int) : Int × Int × Int := if offsErr l = 0 then (if ps.length = l.length then dcR l ps l.length 0 0 0 else (0, 0, 3)) else (0, 0, offsErr l)
theorem dispatch_ev (l : List Of) (ps : List Int) : Evt (fun k => dispatch_Cost.f k l ps) (dispR l ps) := by
  simp only [dispatch_Cost.f]
  refine Evt.bind (offer_CheckAll_ev l) ?_
  unfold dispR
  by_cases h : offsErr l = 0
  · rw [if_pos h]
    refine Evt.ite_pos h ?_
    by_cases h2 : ps.length = l.length
    · rw [if_pos h2]
      exact Evt.ite_pos (by omega) (dispatch_l0 l (offsErr_val h) ps h2 0 (by omega) 0 0 (by omega) (by omega) (by omega) (by omega))
    · rw [if_neg h2]
      exact Evt.ite_neg (by omega) (Evt.pure _)
  · rw [if_neg h]
    exact Evt.ite_neg h (Evt.pure _)
theorem law_l0 (l : List Of) (h : Vals l) (ps : List Int) (hp : ps.length = l.length) (r : Int × Int × Int) : ∀ n, n ≤ l.length → ∀ c s : Int, -1200000000000 * (n : Int) ≤ c → c ≤ 1200000000000 * (n : Int) → 0 ≤ s → s ≤ 100000 * (n : Int) →
    dcR l ps (l.length - n) n c s = r → Evt (fun k => gridhalllaw3_DispatchCosts.l0 k ps r.1 r.2.1 r.2.2 0 c s l (l.length : Int) (n : Int)) true := by
  have hl := h.len
  refine down ?_ ?_
  · intro c s _ _ _ _ hr
    rw [Nat.sub_self] at hr
    subst hr
    refine Evt.succ ?_
    simp only [gridhalllaw3_DispatchCosts.l0, dcR]
    exact Evt.ite_neg (by omega) (Evt.ite_pos trivial (Evt.ite_pos trivial (Evt.of_eq (by simp))))
  · intro n hn ih c s h1 h2 h3 h4 hr
    obtain ⟨d, hd⟩ : ∃ d, l.length - n = d + 1 := ⟨l.length - n - 1, by omega⟩
    rw [show l.length - (n + 1) = d by omega] at ih
    rw [hd] at hr
    refine Evt.succ ?_
    simp only [gridhalllaw3_DispatchCosts.l0]
    refine Evt.ite_pos (by omega) (Evt.ite_pos (by omega) (Evt.ite_pos (by omega) (Evt.ite_pos (by omega) ?_)))
    simp only [rdO0, rdO1, rdp]
    have hv := (h.one n hn).2.1
    have hc := cstO_bd h n hn (pn ps n)
    have ht := lastT_bd h n hn
    refine Evt.bind (All_ev _ _ hv) ?_
    simp only [in_eq, Option.bind_some]
    by_cases c1 : 0 ≤ pn ps n ∧ pn ps n ≤ lastT l n
    · have e2 : dcR l ps (d + 1) n c s = dcR l ps d (n + 1) (c + cstO l n (pn ps n)) (s + pn ps n) := by simp only [dcR]; exact if_pos c1
      rw [e2] at hr
      refine Evt.ite_pos (decide_eq_true c1) (Evt.bind (refCost_ev _ _ hv _) ?_)
      have e3 : cst (stO l n) (pn ps n) (stO l n).length = cstO l n (pn ps n) := rfl
      rw [e3, wrap64_of (x := c + cstO l n (pn ps n)) (by omega) (by omega), wrap64_of (x := s + pn ps n) (by omega) (by omega), wrap64_nat (by omega)]
      exact ih _ _ (by omega) (by omega) (by omega) (by omega) hr
    · have e2 : dcR l ps (d + 1) n c s = (0, 0, 4) := by simp only [dcR]; exact if_neg c1
      rw [e2] at hr
      subst hr
      refine Evt.ite_neg (fun hh => c1 (of_decide_eq_true hh)) (Evt.ite_pos rfl (Evt.ite_pos rfl (Evt.of_eq rfl)))
theorem j0 (l : List Of) (ps : List Int) (b : Bool) (hb : b = false) : Evt (fun k => gridhalllaw3_DispatchCosts.j0 k l ps b) true := by
  subst hb
  refine Evt.succ ?_
  simp only [gridhalllaw3_DispatchCosts.j0]
  refine Evt.ite_neg (by simp) (Evt.bind (dispatch_ev l ps) (Evt.bind (gridhallref3_OffersError_ev l) ?_))
  have err : ∀ e : Int, e ≠ 0 → dispR l ps = (0, 0, e) → Evt (fun k => gridhalllaw3_DispatchCosts.j2 k l ps (dispR l ps).1 (dispR l ps).2.1 (dispR l ps).2.2 e) true := by
    intro e he hd
    rw [hd]
    refine Evt.succ ?_
    simp only [gridhalllaw3_DispatchCosts.j2]
    exact Evt.ite_neg he (Evt.ite_pos trivial (Evt.ite_pos trivial (Evt.of_eq rfl)))
  by_cases h : offsErr l = 0
  · refine Evt.ite_pos h (Evt.succ ?_)
    simp only [gridhalllaw3_DispatchCosts.j1]
    by_cases h2 : ps.length = l.length
    · refine Evt.ite_neg (by simp [h2]) ?_
      refine Evt.succ ?_
      simp only [gridhalllaw3_DispatchCosts.j2, h]
      refine Evt.ite_pos trivial ?_
      refine law_l0 l (offsErr_val h) ps h2 (dispR l ps) 0 (by omega) 0 0 (by omega) (by omega) (by omega) (by omega) ?_
      unfold dispR
      rw [if_pos h, if_pos h2]
      rfl
    · refine Evt.ite_pos (by simp; omega) (err 3 (by omega) ?_)
      unfold dispR
      rw [if_pos h, if_neg h2]
  · refine Evt.ite_neg h (Evt.succ ?_)
    simp only [gridhalllaw3_DispatchCosts.j1]
    refine Evt.ite_neg (by simp) (err _ h ?_)
    unfold dispR
    rw [if_neg h]
theorem pure : Go.Proofs.Ytdhboohbifmbnaa.RDispatchCosts.Pure := by
  intro l ps _ _
  refine Evt.ex ?_
  simp only [gridhalllaw3_DispatchCosts.f, gridhalllaw3_two.f, Option.bind_some]
  refine Evt.bind (dispatch_ev _ _) ?_
  have e : dispR [(⟨⟨#[65]⟩, [⟨10, 5⟩, ⟨10, 8⟩]⟩ : Of)] [12] = (66, 12, 0) := by decide +kernel
  rw [e]
  exact Evt.ite_pos rfl (Evt.ite_pos rfl (j0 l ps _ rfl))
theorem DispatchCosts_holds : Rows.DispatchCostsSaid := Go.Proofs.Ytdhboohbifmbnaa.RDispatchCosts.said pure
#print axioms DispatchCosts_holds
end Go.Proofs.Ytdhboohbifmbnaa.FDispatchCosts
