/- DispatchUnits holds: for all offers and demands Best takes the cheapest unit again and again, and Price lies between the last and the next one; the statement's own bound of 200 units, no other condition. -/
import Derived.Test.YtekpnmeikibioaaCDispatchUnits
import Derived.Test.YtekpnmeikibioaaRowDispatchUnits
namespace Go.Proofs.Ytekpnmeikibioaa.FDispatchUnits
open Go.RowKit Go.Proofs.YtekpnmeikibioaaW.PrintWords Go.Proofs.YtekpnmeikibioaaW.PrintMore Go.Proofs.Ytekpnmeikibioaa.Evs Go.Proofs.Ytekpnmeikibioaa.PDispatchUnits Go.Proofs.Ytekpnmeikibioaa.BDispatchUnits Go.Proofs.Ytekpnmeikibioaa.CDispatchUnits
set_option linter.unusedVariables false
set_option linter.unusedSimpArgs false
/-- At a price at which something is left, nothing cheaper is left, and something at it. -/
theorem al_units {l : List Of} (h : Vals l) (m r : Int) (hm : m ≤ 1000000) (hr0 : 0 ≤ r) (hr : r < sm (cM l m) l.length) : (∀ i, i < l.length → m ≤ UO l i (al l m r i)) ∧ ∃ s, s < l.length ∧ UO l s (al l m r s) ≤ m := by
  refine ⟨fun i hi => ?_, ?_⟩
  · apply Decidable.byContradiction
    intro hh
    have h5 := al_bd h m r i hi
    have h6 := N_bd h m i hi
    have := (unit_lt (h.one i hi).2.1 (al l m r i) m (by omega) (by omega)).1 (by unfold UO at hh; omega)
    unfold NL at h5
    omega
  · obtain ⟨s, hs, hs1, hs2⟩ := sm_step (f := cM l m) r hr0 l.length hr
    simp only [sm] at hs2
    have h5 := al_bd h m r s hs
    have h6 := N_bd h m s hs
    have e : al l m r s < NM l m s := by
      have eM : NM l m s = NL l m s + cM l m s := by unfold cM; omega
      rw [eM]
      unfold al mn mx
      repeat' split
      all_goals omega
    exact ⟨s, hs, (unit_le (h.one s hs).2.1 (al l m r s) m (by omega) (by omega)).2 e⟩
theorem Price_ev (l : List Of) (D : Int) : Evt (fun k => dispatch_Price.f k l D) (if chkR l D = 0 then ((if D > 0 then mg l D else -2000000), (if D < sumT l then mg l (D + 1) else 2000000), 0) else (0, 0, chkR l D)) := by
  simp only [dispatch_Price.f]
  refine Evt.bind (dcheck_ev l D) ?_
  by_cases h : chkR l D = 0
  · rw [if_pos h]
    obtain ⟨hv, _, h0, h1⟩ := chkR_ok h
    have hs := sumT_bd hv l.length (Nat.le_refl _)
    have hl := hv.len
    have es : sumT l = sm (lastT l) l.length := rfl
    have j0 : ∀ x : Int, Evt (fun k => dispatch_Price.j0 k l D x 2000000) (x, (if D < sumT l then mg l (D + 1) else 2000000), 0) := by
      intro x
      refine Evt.succ ?_
      simp only [dispatch_Price.j0]
      refine Evt.bind (dsum_ev l hv) ?_
      rw [wrap64_of (x := D + 1) (by omega) (by omega)]
      refine Evt.ite (fun c => Evt.bind (marginal_ev l hv _) (Evt.of_eq ?_)) (fun c => Evt.of_eq ?_)
      · rw [if_pos c]
      · rw [if_neg c]
    refine Evt.ite_pos h (Evt.ite (fun c => Evt.bind (marginal_ev l hv D) ?_) (fun c => ?_))
    · rw [if_pos c]
      exact j0 _
    · rw [if_neg c]
      exact j0 _
  · rw [if_neg h]
    exact Evt.ite_neg h (Evt.pure _)
theorem Same_l0 (a : List Int) (hl : a.length ≤ 1000) : ∀ n, n ≤ a.length → Evt (fun k => gridhallref3_SameInts.l0 k a a (a.length : Int) (n : Int)) true := by
  refine down ?_ ?_
  · refine Evt.succ ?_
    simp only [gridhallref3_SameInts.l0]
    exact Evt.ite_neg (by omega) (Evt.pure _)
  · intro n hn ih
    refine Evt.succ ?_
    simp only [gridhallref3_SameInts.l0]
    rw [wrap64_nat (by omega)]
    exact Evt.ite_pos (by omega) (Evt.ite_pos (by omega) (Evt.ite_pos (by omega) (Evt.ite_pos (by omega) (Evt.ite_pos (by simp) ih))))
theorem Same_ev (a : List Int) (hl : a.length ≤ 1000) : Evt (fun k => gridhallref3_SameInts.f k a a) true := by
  simp only [gridhallref3_SameInts.f]
  exact Evt.ite_pos (by simp) (Same_l0 a hl 0 (by omega))
def lst (l : List Of) (f : Nat → Int) : Nat → Int
  | 0 => -2000000
  | n + 1 => if f n > 0 then mx (lst l f n) (UO l n (f n - 1)) else lst l f n
def nxt (l : List Of) (f : Nat → Int) : Nat → Int
  | 0 => 2000000
  | n + 1 => mn (nxt l f n) (UO l n (f n))
theorem lst_le (l : List Of) (f : Nat → Int) (m : Int) (hm : -2000000 ≤ m) : ∀ n, (∀ i, i < n → f i > 0 → UO l i (f i - 1) ≤ m) → lst l f n ≤ m := by
  intro n
  induction n with
  | zero => intro _; exact hm
  | succ n ih =>
    intro h
    have h1 := ih (fun i hi => h i (by omega))
    simp only [lst]
    split
    · rename_i c
      have := h n (by omega) c
      unfold mx
      split <;> omega
    · exact h1
theorem lst_ge (l : List Of) (f : Nat → Int) (m : Int) : ∀ n, (∃ i, i < n ∧ f i > 0 ∧ m ≤ UO l i (f i - 1)) → m ≤ lst l f n := by
  intro n
  induction n with
  | zero => intro ⟨i, hi, _⟩; omega
  | succ n ih =>
    intro ⟨i, hi, h1, h2⟩
    simp only [lst]
    by_cases e : i = n
    · subst e
      rw [if_pos h1]
      unfold mx
      split <;> omega
    · have := ih ⟨i, by omega, h1, h2⟩
      split
      · unfold mx
        split <;> omega
      · exact this
theorem nxt_ge (l : List Of) (f : Nat → Int) (m : Int) (hm : m ≤ 2000000) : ∀ n, (∀ i, i < n → m ≤ UO l i (f i)) → m ≤ nxt l f n := by
  intro n
  induction n with
  | zero => intro _; exact hm
  | succ n ih =>
    intro h
    have h1 := ih (fun i hi => h i (by omega))
    have h2 := h n (by omega)
    simp only [nxt]
    unfold mn
    split <;> omega
theorem nxt_le (l : List Of) (f : Nat → Int) (m : Int) : ∀ n, (∃ i, i < n ∧ UO l i (f i) ≤ m) → nxt l f n ≤ m := by
  intro n
  induction n with
  | zero => intro ⟨i, hi, _⟩; omega
  | succ n ih =>
    intro ⟨i, hi, h1⟩
    simp only [nxt]
    by_cases e : i = n
    · subst e
      unfold mn
      split <;> omega
    · have := ih ⟨i, by omega, h1⟩
      unfold mn
      split <;> omega
theorem nxt_le0 (l : List Of) (f : Nat → Int) : ∀ n, nxt l f n ≤ 2000000 := by
  intro n
  induction n with
  | zero => exact Int.le_refl _
  | succ n ih =>
    simp only [nxt]
    unfold mn
    split <;> omega
theorem untF_top {l : List St} (h : Val l) (k : Int) (hk : tot l l.length ≤ k) : ∀ d n, n + d = l.length → untF l k d n = 2000000 := by
  intro d
  induction d with
  | zero => intro n _; rfl
  | succ d ih =>
    intro n hn
    have := tot_le h (a := n + 1) (b := l.length) (by omega) (Nat.le_refl _)
    simp only [untF]
    rw [if_neg (by omega)]
    exact ih (n + 1) (by omega)
section
variable {l : List Of} {D : Int} (h : chkR l D = 0)
include h
theorem sum_fD : sm (fD l D) l.length = D := by
  obtain ⟨hv, _, h0, h1⟩ := chkR_ok h
  by_cases hD : D = 0
  · have e : ∀ i, i < l.length → fD l D i = (fun _ => (0 : Int)) i := fun i hi => by unfold fD; rw [if_pos hD]
    have e3 : ∀ n, sm (fun _ => (0 : Int)) n = 0 := by
      intro n
      induction n with
      | zero => rfl
      | succ n ih => simp only [sm]; omega
    rw [sm_congr _ e, e3, hD]
  · have hm := mg_spec hv D (by omega) h1
    have e : ∀ i, i < l.length → fD l D i = al l (mg l D) (D - OL l (mg l D)) i := fun i hi => by unfold fD; exact if_neg hD
    rw [sm_congr _ e, sm_al hv (mg l D) (D - OL l (mg l D)) (by omega) l.length (Nat.le_refl _), sm_cM]
    have e1 : OL l (mg l D) = sm (NL l (mg l D)) l.length := rfl
    have e2 : OM l (mg l D) = sm (NM l (mg l D)) l.length := rfl
    rw [mn_le (by omega)]
    omega
theorem lst_eq : lst l (fD l D) l.length = if D > 0 then mg l D else -2000000 := by
  obtain ⟨hv, _, h0, h1⟩ := chkR_ok h
  by_cases hD : D > 0
  · rw [if_pos hD]
    have hm := mg_spec hv D (by omega) h1
    have hp := PL_bd hv hm.1
    have e : ∀ i, i < l.length → fD l D i = al l (mg l D) (D - OL l (mg l D)) i := fun i hi => by unfold fD; exact if_neg (by omega)
    have a1 : lst l (fD l D) l.length ≤ mg l D := lst_le l _ _ (by omega) _ (fun i hi hf => by
      rw [e i hi] at hf ⊢
      have h5 := al_bd hv (mg l D) (D - OL l (mg l D)) i hi
      exact (unit_le (hv.one i hi).2.1 _ (mg l D) (by omega) (by omega)).2 (by unfold NM at h5; omega))
    have a2 : mg l D ≤ lst l (fD l D) l.length := lst_ge l _ _ _ (by
      obtain ⟨i, hi, hlt⟩ := sm_lt (f := NL l (mg l D)) (g := fD l D) l.length (by rw [sum_fD h]; exact hm.2.1)
      have h6 := N_bd hv (mg l D) i hi
      refine ⟨i, hi, by omega, ?_⟩
      apply Decidable.byContradiction
      intro hh
      have := (unit_lt (hv.one i hi).2.1 (fD l D i - 1) (mg l D) (by omega) (by omega)).1 (by unfold UO at hh; omega)
      unfold NL at hlt
      omega)
    omega
  · rw [if_neg hD]
    have e : ∀ i, i < l.length → fD l D i = 0 := fun i hi => by unfold fD; exact if_pos (by omega)
    have : ∀ n, n ≤ l.length → lst l (fD l D) n = -2000000 := by
      intro n
      induction n with
      | zero => intro _; rfl
      | succ n ih =>
        intro hn
        simp only [lst]
        rw [if_neg (by rw [e n (by omega)]; omega)]
        exact ih (by omega)
    exact this _ (Nat.le_refl _)
theorem nxt_eq : nxt l (fD l D) l.length = if D < sumT l then mg l (D + 1) else 2000000 := by
  obtain ⟨hv, _, h0, h1⟩ := chkR_ok h
  have hs := sumT_bd hv l.length (Nat.le_refl _)
  have hl := hv.len
  have es : sumT l = sm (lastT l) l.length := rfl
  by_cases hD : D < sumT l
  · rw [if_pos hD]
    have hm := mg_spec hv (D + 1) (by omega) (by omega)
    have hp := PL_bd hv hm.1
    have e1 : OL l (mg l (D + 1)) = sm (NL l (mg l (D + 1))) l.length := rfl
    have e2 : OM l (mg l (D + 1)) = sm (NM l (mg l (D + 1))) l.length := rfl
    have et := Evt.unique (ServedD_ev l D h) (Served_ev l hv (mg l (D + 1)) hp.2 D h0 (by omega) (by omega) (by omega))
    have ef : ∀ i, i < l.length → fD l D i = al l (mg l (D + 1)) (D - OL l (mg l (D + 1))) i := fun i hi => by
      have := congrArg (fun q => rd q (i : Int)) et
      simp only [tab_get _ hi] at this
      exact this
    obtain ⟨u1, s, hs1, hs2⟩ := al_units hv (mg l (D + 1)) (D - OL l (mg l (D + 1))) hp.2 (by omega) (by rw [sm_cM]; omega)
    have a1 := nxt_ge l (fD l D) (mg l (D + 1)) (by omega) l.length (fun i hi => by rw [ef i hi]; exact u1 i hi)
    have a2 := nxt_le l (fD l D) (mg l (D + 1)) l.length ⟨s, hs1, by rw [ef s hs1]; exact hs2⟩
    omega
  · rw [if_neg hD]
    have ef := sm_eq_of l.length (fun i hi => (fD_bd hv D i hi).2) (show sm (fD l D) l.length = sm (lastT l) l.length by rw [sum_fD h]; omega)
    have a1 := nxt_ge l (fD l D) 2000000 (by omega) l.length (fun i hi => by
      rw [ef i hi]
      have := untF_top (hv.one i hi).2.1 (lastT l i) (Int.le_refl _) (stO l i).length 0 (by omega)
      unfold UO
      rw [this]
      exact Int.le_refl _)
    have a2 := nxt_le0 l (fD l D) l.length
    omega
theorem law_l1 (p : List Int) (n low high : Int) (hp : p = tab (fD l D) l.length) (hn : n = sm (cF l (fD l D)) l.length) (hlow : low = lst l (fD l D) l.length) (hhigh : high = nxt l (fD l D) l.length) :
    ∀ i, i ≤ l.length → Evt (fun k => gridhalllaw3_DispatchUnits.l1 k p n 0 low high 0 (tab (fD l D) l.length) (sm (cF l (fD l D)) i) (lst l (fD l D) i) (nxt l (fD l D) i) l (l.length : Int) (i : Int)) true := by
  obtain ⟨hv, _, h0, h1⟩ := chkR_ok h
  have hl := hv.len
  refine down ?_ ?_
  · refine Evt.succ ?_
    simp only [gridhalllaw3_DispatchUnits.l1]
    rw [hp]
    exact Evt.ite_neg (by omega) (Evt.ite_pos trivial (Evt.ite_pos trivial (Evt.bind (Same_ev _ (by rw [tab_len]; omega)) (Evt.ite_pos rfl (Evt.ite_pos hn (Evt.ite_pos hlow (Evt.of_eq (by simp [hhigh]))))))))
  · intro i hi ih
    refine Evt.succ ?_
    simp only [gridhalllaw3_DispatchUnits.l1, tab_len]
    refine Evt.ite_pos (by omega) (Evt.ite_pos (by omega) (Evt.ite_pos (by omega) (Evt.ite_pos (by omega) ?_)))
    simp only [rdO0, rdO1]
    have hvi := (hv.one i hi).2.1
    have hb := cF_bd hv (fD l D) (i + 1) (by omega)
    have hf := fD_bd hv D i hi
    have hT := lastT_bd hv i hi
    rw [tab_get _ hi]
    refine Evt.bind (refCost_ev _ _ hvi _) ?_
    have e2 : sm (cF l (fD l D)) i + cst (stO l i) (fD l D i) (stO l i).length = sm (cF l (fD l D)) (i + 1) := rfl
    rw [e2, wrap64_of (x := sm (cF l (fD l D)) (i + 1)) (by omega) (by omega), wrap64_of (x := fD l D i - 1) (by omega) (by omega), wrap64_nat (by omega)]
    refine Evt.ite (fun c => Evt.bind (Unit_ev _ _ hvi _) (Evt.bind (Unit_ev _ _ hvi _) ?_)) (fun c => Evt.bind (Unit_ev _ _ hvi _) ?_)
    · have e3 : lst l (fD l D) (i + 1) = mx (lst l (fD l D) i) (UO l i (fD l D i - 1)) := by simp only [lst]; exact if_pos c
      rw [e3] at ih
      exact ih
    · have e3 : lst l (fD l D) (i + 1) = lst l (fD l D) i := by simp only [lst]; exact if_neg c
      rw [e3] at ih
      exact ih
end
def priceR (l : List Of) (D : Int) : Int × Int × Int := if chkR l D = 0 then ((if D > 0 then mg l D else -2000000), (if D < sumT l then mg l (D + 1) else 2000000), 0) else (0, 0, chkR l D)
theorem j2_ev (l : List Of) (D : Int) : Evt (fun k => gridhalllaw3_DispatchUnits.j2 k l D (bestR l D).1 (bestR l D).2.1 (bestR l D).2.2 (priceR l D).1 (priceR l D).2.1 (priceR l D).2.2 (chkR l D)) true := by
  refine Evt.succ ?_
  simp only [gridhalllaw3_DispatchUnits.j2]
  by_cases h : chkR l D = 0
  · refine Evt.ite_pos h (Evt.ite (fun _ => Evt.pure _) (fun c => Evt.bind (ServedD_ev l D h) ?_))
    have e1 : bestR l D = (tab (fD l D) l.length, sm (cF l (fD l D)) l.length, 0) := by unfold bestR; exact if_pos h
    have e2 : priceR l D = ((if D > 0 then mg l D else -2000000), (if D < sumT l then mg l (D + 1) else 2000000), 0) := by unfold priceR; exact if_pos h
    rw [e1, e2]
    exact law_l1 h _ _ _ _ rfl rfl (lst_eq h).symm (nxt_eq h).symm 0 (by omega)
  · have e1 : bestR l D = ([], 0, chkR l D) := by unfold bestR; exact if_neg h
    have e2 : priceR l D = (0, 0, chkR l D) := by unfold priceR; exact if_neg h
    rw [e1, e2]
    exact Evt.ite_neg h (Evt.ite_pos rfl (Evt.ite_pos rfl (Evt.ite_pos rfl (Evt.ite_pos rfl (Evt.ite_pos rfl (Evt.of_eq rfl))))))
theorem law_l0 (l : List Of) (hv : Vals l) (D : Int) (p : List Int) (n e low high f : Int)
    (hr : Evt (fun k => gridhalllaw3_DispatchUnits.j2 k l D p n e low high f (if 0 ≤ D ∧ D ≤ 1000000 then (if D > sumT l then 8 else 0) else 4)) true) :
    ∀ i, i ≤ l.length → Evt (fun k => gridhalllaw3_DispatchUnits.l0 k l D p n e low high f 0 (sm (lastT l) i) l (l.length : Int) (i : Int)) true := by
  have hl := hv.len
  refine down ?_ ?_
  · refine Evt.succ ?_
    simp only [gridhalllaw3_DispatchUnits.l0, in_eq, Option.bind_some]
    have es : sm (lastT l) l.length = sumT l := rfl
    rw [es]
    refine Evt.ite_neg (by omega) (Evt.ite (fun c => ?_) (fun c => ?_))
    · rw [if_pos (of_decide_eq_true c)] at hr
      refine Evt.ite (fun c2 => ?_) (fun c2 => ?_)
      · rw [if_pos c2] at hr
        exact hr
      · rw [if_neg c2] at hr
        exact hr
    · rw [if_neg (fun hh => c (decide_eq_true hh))] at hr
      exact hr
  · intro i hi ih
    refine Evt.succ ?_
    simp only [gridhalllaw3_DispatchUnits.l0]
    refine Evt.ite_pos (by omega) (Evt.ite_pos (by omega) (Evt.ite_pos (by omega) ?_))
    simp only [rdO0, rdO1]
    refine Evt.bind (All_ev _ _ (hv.one i hi).2.1) ?_
    have hb := sumT_bd hv (i + 1) (by omega)
    have e : sm (lastT l) i + tot (stO l i) (stO l i).length = sm (lastT l) (i + 1) := rfl
    rw [e, wrap64_of (x := sm (lastT l) (i + 1)) (by omega) (by omega), wrap64_nat (by omega)]
    exact ih
theorem j0_ev (l : List Of) (D : Int) (b : Bool) (hb : b = false) : Evt (fun k => gridhalllaw3_DispatchUnits.j0 k l D b) true := by
  subst hb
  refine Evt.succ ?_
  simp only [gridhalllaw3_DispatchUnits.j0]
  refine Evt.ite_neg (by simp) (Evt.bind (Best_ev l D) (Evt.bind (Price_ev l D) (Evt.bind (gridhallref3_OffersError_ev l) ?_)))
  have hj := j2_ev l D
  by_cases h : offsErr l = 0
  · refine Evt.ite_pos h ?_
    rw [h]
    have e : chkR l D = (if 0 ≤ D ∧ D ≤ 1000000 then (if D > sumT l then 8 else 0) else 4) := by unfold chkR; exact if_pos h
    have hr := hj
    rw [e] at hr
    have e9 : priceR l D = (if chkR l D = 0 then ((if D > 0 then mg l D else -2000000), (if D < sumT l then mg l (D + 1) else 2000000), 0) else (0, 0, chkR l D)) := rfl
    rw [← e] at hr
    rw [← e9]
    refine law_l0 l (offsErr_val h) D _ _ _ _ _ _ ?_ 0 (by omega)
    rw [← e]
    exact hr
  · refine Evt.ite_neg h ?_
    have e : chkR l D = offsErr l := by unfold chkR; exact if_neg h
    rw [← e]
    exact hj
theorem pure : Go.Proofs.Ytekpnmeikibioaa.RDispatchUnits.Pure := by
  intro l D _ _
  refine Evt.ex ?_
  simp only [gridhalllaw3_DispatchUnits.f, gridhalllaw3_two.f, Option.bind_some]
  refine Evt.bind (Best_ev _ _) ?_
  have e : bestR [(⟨⟨#[65]⟩, [⟨10, 5⟩, ⟨10, 8⟩]⟩ : Of), ⟨⟨#[66]⟩, [⟨10, 5⟩, ⟨10, 8⟩]⟩] 22 = ([12, 10], 116, 0) := by decide +kernel
  rw [e]
  refine Evt.ite_pos rfl (Evt.ite_pos rfl (Evt.bind (Same_ev _ (by decide)) ?_))
  exact j0_ev l D _ rfl
theorem DispatchUnits_holds : Rows.DispatchUnitsSaid := Go.Proofs.Ytekpnmeikibioaa.RDispatchUnits.said pure
#print axioms DispatchUnits_holds
end Go.Proofs.Ytekpnmeikibioaa.FDispatchUnits
