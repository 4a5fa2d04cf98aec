/- What the functions of dispatch and the reference answer. -/
import Derived.Test.YtekpnmeikibioaaBWelfareMoves
namespace Go.Proofs.Ytekpnmeikibioaa.CWelfareMoves
open Go.RowKit Go.Proofs.YtekpnmeikibioaaW.PrintWords Go.Proofs.YtekpnmeikibioaaW.PrintMore Go.Proofs.Ytekpnmeikibioaa.Evs Go.Proofs.Ytekpnmeikibioaa.PWelfareMoves Go.Proofs.Ytekpnmeikibioaa.BWelfareMoves
set_option linter.unusedVariables false
set_option linter.unusedSimpArgs false
/-! what the functions of dispatch answer -/
def supB (b : Bool) (s : List St) (p : Int) (n : Nat) : Int := if b = true then supM s p n else supL s p n
def NB (b : Bool) (l : List Of) (p : Int) (i : Nat) : Int := supB b (stO l i) p (stO l i).length
theorem supB_bd {s : List St} (h : Val s) (b : Bool) (p : Int) (n : Nat) (hn : n ≤ s.length) : 0 ≤ supB b s p n ∧ supB b s p n ≤ 100000 := by
  have h1 := sup_bd h p n hn
  have h2 := h.bd n hn
  unfold supB
  split <;> omega
theorem NB_bd {l : List Of} (h : Vals l) (b : Bool) (p : Int) (i : Nat) (hi : i < l.length) : 0 ≤ NB b l p i ∧ NB b l p i ≤ 100000 := supB_bd (h.one i hi).2.1 b p _ (Nat.le_refl _)
theorem smNB_bd {l : List Of} (h : Vals l) (b : Bool) (p : Int) : ∀ n, n ≤ l.length → 0 ≤ sm (NB b l p) n ∧ sm (NB b l p) n ≤ 100000 * (n : Int) := by
  intro n
  induction n with
  | zero => intro _; simp [sm]
  | succ n ih =>
    intro hn
    have h0 := ih (by omega)
    have h1 := NB_bd h b p n (by omega)
    simp only [sm]
    omega
theorem offered_l1 (l : List Of) (h : Vals l) (p : Int) (b : Bool) (i : Nat) (hi : i < l.length) (base : Int) (hb : 0 ≤ base ∧ base ≤ 1000000) (r : Int)
    (hr : Evt (fun k => dispatch_offered.l0 k p b (base + NB b l p i) l (l.length : Int) ((i + 1 : Nat) : Int)) r) :
    ∀ n, n ≤ (stO l i).length → Evt (fun k => dispatch_offered.l1 k p b (base + supB b (stO l i) p n) l (l.length : Int) (i : Int) (stO l i) ((stO l i).length : Int) (n : Int)) r := by
  have hl := h.len
  have hv := (h.one i hi).2.1
  have hs := hv.len
  refine down ?_ ?_
  · refine Evt.succ ?_
    simp only [dispatch_offered.l1]
    rw [wrap64_nat (n := i) (by omega)]
    exact Evt.ite_neg (by omega) hr
  · intro n hn ih
    refine Evt.succ ?_
    simp only [dispatch_offered.l1]
    refine Evt.ite_pos (by omega) (Evt.ite_pos (by omega) (Evt.ite_pos (by omega) ?_))
    simp only [rd0, rd1]
    have hb1 := supB_bd hv b p n (by omega)
    have hb2 := hv.rng n hn
    rw [wrap64_of (x := base + supB b (stO l i) p n + pw (stO l i) n) (by omega) (by omega), wrap64_nat (n := n) (by omega)]
    have e1 : (pr (stO l i) n < p ∨ (b = true ∧ pr (stO l i) n = p)) → supB b (stO l i) p (n + 1) = supB b (stO l i) p n + pw (stO l i) n := by
      intro hc
      unfold supB
      cases b with
      | true => simp only [if_true, supM]; exact if_pos (by omega)
      | false =>
        have hc : pr (stO l i) n < p := by simpa using hc
        simp only [supL]
        rw [if_pos hc]
        rfl
    have e2 : ¬ (pr (stO l i) n < p ∨ (b = true ∧ pr (stO l i) n = p)) → supB b (stO l i) p (n + 1) = supB b (stO l i) p n := by
      intro hc
      unfold supB
      cases b with
      | true =>
        have hc : ¬ (pr (stO l i) n < p ∨ pr (stO l i) n = p) := by simpa using hc
        simp only [if_true, supM]
        exact if_neg (by omega)
      | false =>
        have hc : ¬ pr (stO l i) n < p := fun hh => hc (.inl hh)
        simp only [supL]
        rw [if_neg hc, if_neg (by simp), if_neg (by simp)]
    refine Evt.ite (fun c => ?_) (fun c => Evt.ite (fun c2 => Evt.ite (fun c3 => ?_) (fun c3 => ?_)) (fun c2 => ?_))
    · rw [e1 (.inl c)] at ih
      rw [Int.add_assoc]
      exact ih
    · rw [e1 (.inr ⟨c2, c3⟩)] at ih
      rw [Int.add_assoc]
      exact ih
    · rw [e2 (fun hh => hh.elim c (fun z => c3 z.2))] at ih
      exact ih
    · rw [e2 (fun hh => hh.elim c (fun z => c2 z.1))] at ih
      exact ih
theorem offered_l0 (l : List Of) (h : Vals l) (p : Int) (b : Bool) : ∀ n, n ≤ l.length → Evt (fun k => dispatch_offered.l0 k p b (sm (NB b l p) n) l (l.length : Int) (n : Int)) (sm (NB b l p) l.length) := by
  have hl := h.len
  refine down ?_ ?_
  · refine Evt.succ ?_
    simp only [dispatch_offered.l0]
    exact Evt.ite_neg (by omega) (Evt.pure _)
  · intro n hn ih
    refine Evt.succ ?_
    simp only [dispatch_offered.l0]
    refine Evt.ite_pos (by omega) (Evt.ite_pos (by omega) (Evt.ite_pos (by omega) ?_))
    simp only [rdO1]
    have hb := smNB_bd h b p n (by omega)
    have := offered_l1 l h p b n hn (sm (NB b l p) n) (by omega) _ ih 0 (by omega)
    have e : supB b (stO l n) p 0 = 0 := by unfold supB; split <;> rfl
    rw [e, Int.add_zero] at this
    exact this
theorem offeredT_ev (l : List Of) (h : Vals l) (p : Int) : Evt (fun k => dispatch_offered.f k l p true) (OM l p) := by
  simp only [dispatch_offered.f]
  have := offered_l0 l h p true 0 (by omega)
  exact this
theorem offeredF_ev (l : List Of) (h : Vals l) (p : Int) : Evt (fun k => dispatch_offered.f k l p false) (OL l p) := by
  simp only [dispatch_offered.f]
  have := offered_l0 l h p false 0 (by omega)
  exact this
theorem marginal_l1 (l : List Of) (h : Vals l) (D : Int) (i : Nat) (hi : i < l.length) (r : Int) :
    ∀ n, n ≤ (stO l i).length → ∀ b : Int, Evt (fun k => dispatch_marginal.l0 k l D (mg1 l D (stO l i) ((stO l i).length - n) n b) l (l.length : Int) ((i + 1 : Nat) : Int)) r → Evt (fun k => dispatch_marginal.l1 k l D b l (l.length : Int) (i : Int) (stO l i) ((stO l i).length : Int) (n : Int)) r := by
  have hl := h.len
  have hv := (h.one i hi).2.1
  have hs := hv.len
  refine down ?_ ?_
  · intro b hr
    rw [Nat.sub_self] at hr
    refine Evt.succ ?_
    simp only [dispatch_marginal.l1]
    rw [wrap64_nat (n := i) (by omega)]
    exact Evt.ite_neg (by omega) hr
  · intro n hn ih b hr
    obtain ⟨d, hd⟩ : ∃ d, (stO l i).length - n = d + 1 := ⟨(stO l i).length - n - 1, by omega⟩
    rw [show (stO l i).length - (n + 1) = d by omega] at ih
    rw [hd] at hr
    simp only [mg1] at hr
    refine Evt.succ ?_
    simp only [dispatch_marginal.l1]
    refine Evt.ite_pos (by omega) (Evt.ite_pos (by omega) (Evt.ite_pos (by omega) ?_))
    simp only [rd1]
    rw [wrap64_nat (n := n) (by omega)]
    refine Evt.ite (fun c => Evt.bind (offeredT_ev l h _) (Evt.ite (fun c2 => ih _ ?_) (fun c2 => ih _ ?_))) (fun c => ih _ ?_)
    · rw [if_pos c, if_pos c2] at hr
      exact hr
    · rw [if_pos c, if_neg c2] at hr
      exact hr
    · rw [if_neg c] at hr
      exact hr
theorem marginal_l0 (l : List Of) (h : Vals l) (D : Int) : ∀ n, n ≤ l.length → ∀ b : Int, Evt (fun k => dispatch_marginal.l0 k l D b l (l.length : Int) (n : Int)) (mg0 l D (l.length - n) n b) := by
  have hl := h.len
  refine down ?_ ?_
  · intro b
    refine Evt.succ ?_
    simp only [dispatch_marginal.l0, Nat.sub_self, mg0]
    exact Evt.ite_neg (by omega) (Evt.pure _)
  · intro n hn ih b
    obtain ⟨d, hd⟩ : ∃ d, l.length - n = d + 1 := ⟨l.length - n - 1, by omega⟩
    rw [show l.length - (n + 1) = d by omega] at ih
    rw [hd]
    refine Evt.succ ?_
    simp only [dispatch_marginal.l0, mg0]
    refine Evt.ite_pos (by omega) (Evt.ite_pos (by omega) (Evt.ite_pos (by omega) ?_))
    simp only [rdO1]
    exact marginal_l1 l h D n hn _ 0 (by omega) b (ih _)
theorem marginal_ev (l : List Of) (h : Vals l) (D : Int) : Evt (fun k => dispatch_marginal.f k l D) (mg l D) := by
  simp only [dispatch_marginal.f]
  exact marginal_l0 l h D 0 (by omega) 2000000
theorem sumT_bd {l : List Of} (h : Vals l) : ∀ n, n ≤ l.length → 0 ≤ sm (lastT l) n ∧ sm (lastT l) n ≤ 100000 * (n : Int) := by
  intro n
  induction n with
  | zero => intro _; simp [sm]
  | succ n ih =>
    intro hn
    have h0 := ih (by omega)
    have h1 := lastT_bd h n (by omega)
    simp only [sm]
    omega
theorem dsum_l0 (l : List Of) (h : Vals l) : ∀ n, n ≤ l.length → Evt (fun k => dispatch_sum.l0 k (sm (lastT l) n) l (l.length : Int) (n : Int)) (sumT l) := by
  have hl := h.len
  refine down ?_ ?_
  · refine Evt.succ ?_
    simp only [dispatch_sum.l0]
    exact Evt.ite_neg (by omega) (Evt.pure _)
  · intro n hn ih
    refine Evt.succ ?_
    simp only [dispatch_sum.l0]
    refine Evt.ite_pos (by omega) (Evt.ite_pos (by omega) (Evt.ite_pos (by omega) ?_))
    simp only [rdO0, rdO1]
    refine Evt.bind (Most_ev _ _ (h.one n hn).2.1) ?_
    have hb := sumT_bd h (n + 1) (by omega)
    have e : sm (lastT l) n + tot (stO l n) (stO l n).length = sm (lastT l) (n + 1) := rfl
    rw [e, wrap64_of (x := sm (lastT l) (n + 1)) (by omega) (by omega), wrap64_nat (by omega)]
    exact ih
theorem dsum_ev (l : List Of) (h : Vals l) : Evt (fun k => dispatch_sum.f k l) (sumT l) := by
  simp only [dispatch_sum.f]
  exact dsum_l0 l h 0 (by omega)
def chkR (l : List Of) (D : Int) : Int := if offsErr l = 0 then (if 0 ≤ D ∧ D ≤ 1000000 then (if D > sumT l then 8 else 0) else 4) else offsErr l
theorem dcheck_ev (l : List Of) (D : Int) : Evt (fun k => dispatch_check.f k l D) (chkR l D) := by
  simp only [dispatch_check.f]
  refine Evt.bind (offer_CheckAll_ev l) ?_
  unfold chkR
  by_cases h : offsErr l = 0
  · rw [if_pos h]
    refine Evt.ite_pos h ?_
    have bad : ∀ b, b = true → Evt (fun k => dispatch_check.j0 k l D b) 4 := by
      intro b hb
      refine Evt.succ ?_
      simp only [dispatch_check.j0]
      exact Evt.ite_pos hb (Evt.pure _)
    by_cases c : 0 ≤ D ∧ D ≤ 1000000
    · rw [if_pos c]
      refine Evt.ite_neg (by omega) (Evt.succ ?_)
      simp only [dispatch_check.j0]
      refine Evt.ite_neg (by simp; omega) (Evt.bind (dsum_ev l (offsErr_val h)) (Evt.ite (fun c2 => Evt.of_eq (if_pos c2).symm) (fun c2 => Evt.of_eq (if_neg c2).symm)))
    · rw [if_neg c]
      exact Evt.ite (fun _ => bad _ rfl) (fun c1 => bad _ (decide_eq_true (by omega)))
  · rw [if_neg h]
    exact Evt.ite_neg h (Evt.pure _)
theorem chkR_ok {l : List Of} {D : Int} (h : chkR l D = 0) : Vals l ∧ offsErr l = 0 ∧ 0 ≤ D ∧ D ≤ sumT l := by
  unfold chkR at h
  by_cases h1 : offsErr l = 0
  · rw [if_pos h1] at h
    by_cases h2 : 0 ≤ D ∧ D ≤ 1000000
    · rw [if_pos h2] at h
      by_cases h3 : D > sumT l
      · rw [if_pos h3] at h
        omega
      · exact ⟨offsErr_val h1, h1, h2.1, by omega⟩
    · rw [if_neg h2] at h
      omega
  · rw [if_neg h1] at h
    exact absurd h h1
/-- The cost of powers. -/
def cF (l : List Of) (f : Nat → Int) (i : Nat) : Int := cstO l i (f i)
theorem cF_bd {l : List Of} (h : Vals l) (f : Nat → Int) : ∀ n, n ≤ l.length → -1200000000000 * (n : Int) ≤ sm (cF l f) n ∧ sm (cF l f) n ≤ 1200000000000 * (n : Int) := by
  intro n
  induction n with
  | zero => intro _; simp [sm]
  | succ n ih =>
    intro hn
    have h0 := ih (by omega)
    have h1 := cstO_bd h n (by omega) (f n)
    simp only [sm]
    have e : cF l f n = cstO l n (f n) := rfl
    rw [e]
    omega
theorem dcosts_l0 (l : List Of) (h : Vals l) (f : Nat → Int) (hf : ∀ i, i < l.length → 0 ≤ f i ∧ f i ≤ lastT l i) : ∀ n, n ≤ l.length → Evt (fun k => dispatch_costs.l0 k (tab f l.length) (sm (cF l f) n) l (l.length : Int) (n : Int)) (tab f l.length, sm (cF l f) l.length, 0) := by
  have hl := h.len
  refine down ?_ ?_
  · refine Evt.succ ?_
    simp only [dispatch_costs.l0]
    exact Evt.ite_neg (by omega) (Evt.pure _)
  · intro n hn ih
    refine Evt.succ ?_
    simp only [dispatch_costs.l0, tab_len]
    refine Evt.ite_pos (by omega) (Evt.ite_pos (by omega) (Evt.ite_pos (by omega) (Evt.ite_pos (by omega) ?_)))
    simp only [rdO0, rdO1]
    rw [tab_get f hn]
    refine Evt.bind (Cost_ev _ _ _) ?_
    have ho := (h.one n hn).2.2.1
    have e : costR (nmO l n) (stO l n) (f n) = (cstO l n (f n), 0) := by
      unfold costR
      rw [if_pos ho]
      exact if_pos (hf n hn)
    have hb := cF_bd h f (n + 1) (by omega)
    have e2 : sm (cF l f) n + cstO l n (f n) = sm (cF l f) (n + 1) := rfl
    rw [e]
    show Evt (fun k => dispatch_costs.l0 k (tab f l.length) (wrap64 (sm (cF l f) n + cstO l n (f n))) l (l.length : Int) (wrap64 ((n : Int) + 1))) _
    rw [e2, wrap64_of (x := sm (cF l f) (n + 1)) (by omega) (by omega), wrap64_nat (by omega)]
    exact ih
def fD (l : List Of) (D : Int) (i : Nat) : Int := if D = 0 then 0 else al l (mg l D) (D - OL l (mg l D)) i
def bestR (l : List Of) (D : Int) : List Int × Int × Int := if chkR l D = 0 then (tab (fD l D) l.length, sm (cF l (fD l D)) l.length, 0) else ([], 0, chkR l D)
theorem cstO_zero (l : List Of) (h : Vals l) (i : Nat) (hi : i < l.length) : cstO l i 0 = 0 := by
  have := cst_tot (h.one i hi).2.1 0 (by omega) (stO l i).length (Nat.le_refl _)
  rw [Nat.min_eq_right (by omega)] at this
  exact this
theorem fD_bd {l : List Of} (h : Vals l) (D : Int) : ∀ i, i < l.length → 0 ≤ fD l D i ∧ fD l D i ≤ lastT l i := by
  intro i hi
  unfold fD
  split
  · have := lastT_bd h i hi
    omega
  · have h1 := al_bd h (mg l D) (D - OL l (mg l D)) i hi
    have h2 := N_bd h (mg l D) i hi
    omega
theorem Best_l0 (l : List Of) (h : Vals l) (m r : Int) (hm : -1000000 ≤ m ∧ m ≤ 1000000) (hr : 0 ≤ r ∧ r ≤ 1000000) : ∀ n, n ≤ l.length → Evt (fun k => dispatch_Best.l0 k l (tab (fun j => if j < n then al l m r j else 0) l.length) m (mx (r - sm (cM l m) n) 0) l (l.length : Int) (n : Int)) (tab (al l m r) l.length, sm (cF l (al l m r)) l.length, 0) := by
  have hl := h.len
  refine down ?_ ?_
  · refine Evt.succ ?_
    simp only [dispatch_Best.l0]
    refine Evt.ite_neg (by omega) ?_
    have e : tab (fun j => if j < l.length then al l m r j else 0) l.length = tab (al l m r) l.length := tab_congr (fun i hi => if_pos hi)
    rw [e]
    refine Evt.bind (g := fun k => dispatch_costs.f k l (tab (al l m r) l.length)) (a := (tab (al l m r) l.length, sm (cF l (al l m r)) l.length, 0)) ?_ (Evt.pure _)
    simp only [dispatch_costs.f]
    refine dcosts_l0 l h (al l m r) (fun i hi => ?_) 0 (by omega)
    have h1 := al_bd h m r i hi
    have h2 := N_bd h m i hi
    omega
  · intro n hn ih
    refine Evt.succ ?_
    simp only [dispatch_Best.l0, tab_len]
    refine Evt.ite_pos (by omega) (Evt.ite_pos (by omega) (Evt.ite_pos (by omega) ?_))
    simp only [rdO0, rdO1]
    refine Evt.bind (Supply_ev _ _ _) (Evt.ite_pos (by omega) ?_)
    have ho := (h.one n hn).2.2.1
    have e : supR (nmO l n) (stO l n) m = (NL l m n, NM l m n, 0) := by
      unfold supR
      rw [if_pos ho]
      exact if_pos (by omega)
    have hb := N_bd h m n hn
    have hc := cM_nn h m n hn
    have h0 := sm_mono (f := cM l m) (N := l.length) (fun i hi => cM_nn h m i hi) (a := 0) (b := n) (by omega) (by omega)
    simp only [sm] at h0
    have ec : NM l m n - NL l m n = cM l m n := rfl
    have ea : NL l m n + mn (mx (r - sm (cM l m) n) 0) (cM l m n) = al l m r n := rfl
    have hal := al_bd h m r n hn
    have en : mx (r - sm (cM l m) n) 0 - mn (mx (r - sm (cM l m) n) 0) (cM l m n) = mx (r - sm (cM l m) (n + 1)) 0 := by
      simp only [sm]
      unfold mn mx
      repeat' split
      all_goals omega
    have hbn : 0 ≤ mx (r - sm (cM l m) (n + 1)) 0 ∧ mx (r - sm (cM l m) (n + 1)) 0 ≤ 1000000 := by
      simp only [sm]
      unfold mx
      split <;> omega
    rw [e]
    try simp only []
    rw [ec, wrap64_of (x := cM l m n) (by omega) (by omega), ea, en, wrap64_of (x := al l m r n) (by omega) (by omega), wrap64_of (x := mx (r - sm (cM l m) (n + 1)) 0) (by omega) (by omega), wrap64_nat (by omega), tab_set]
    have e3 : tab (fun j => if j = n then al l m r n else if j < n then al l m r j else 0) l.length = tab (fun j => if j < n + 1 then al l m r j else 0) l.length := by
      refine tab_congr (fun i hi => ?_)
      show (if i = n then al l m r n else if i < n then al l m r i else 0) = (if i < n + 1 then al l m r i else 0)
      by_cases c : i = n
      · rw [if_pos c, if_pos (by omega), c]
      · rw [if_neg c]
        by_cases c2 : i < n
        · rw [if_pos c2, if_pos (by omega)]
        · rw [if_neg c2, if_neg (by omega)]
    rw [e3]
    exact ih
theorem Best_ev (l : List Of) (D : Int) : Evt (fun k => dispatch_Best.f k l D) (bestR l D) := by
  simp only [dispatch_Best.f]
  refine Evt.bind (dcheck_ev l D) ?_
  unfold bestR
  by_cases h : chkR l D = 0
  · rw [if_pos h]
    obtain ⟨hv, _, h0, h1⟩ := chkR_ok h
    have hl := hv.len
    refine Evt.ite_pos h (Evt.ite_pos (by omega) (Evt.ite_pos (by omega) (Evt.bindo rfl ?_)))
    rw [show ((l.length : Int)).toNat = l.length by omega, tab_zero]
    by_cases hD : D = 0
    · refine Evt.ite_pos hD (Evt.of_eq ?_)
      have e1 : tab (fun _ => 0) l.length = tab (fD l D) l.length := tab_congr (fun i hi => by unfold fD; rw [if_pos hD])
      have e2 : sm (cF l (fD l D)) l.length = sm (fun _ => (0 : Int)) l.length := sm_congr _ (fun i hi => by
        unfold cF fD
        rw [if_pos hD]
        exact cstO_zero l hv i hi)
      have e3 : ∀ n, sm (fun _ => (0 : Int)) n = 0 := by
        intro n
        induction n with
        | zero => rfl
        | succ n ih => simp only [sm]; omega
      rw [e1, e2, e3]
    · have hm := mg_spec hv D (by omega) h1
      have hp := PL_bd hv hm.1
      refine Evt.ite_neg hD (Evt.bind (marginal_ev l hv D) (Evt.bind (offeredF_ev l hv _) ?_))
      have hs := sumT_bd hv l.length (Nat.le_refl _)
      have hOL : 0 ≤ OL l (mg l D) := sm_nonneg _ (fun i hi => (N_bd hv (mg l D) i hi).1)
      have es : sumT l = sm (lastT l) l.length := rfl
      rw [wrap64_of (x := D - OL l (mg l D)) (by omega) (by omega)]
      have := Best_l0 l hv (mg l D) (D - OL l (mg l D)) hp (by omega) 0 (by omega)
      simp only [sm] at this
      rw [mx_ge (a := D - OL l (mg l D) - 0) (b := 0) (by omega), Int.sub_zero] at this
      have e1 : tab (fun j => if j < 0 then al l (mg l D) (D - OL l (mg l D)) j else 0) l.length = tab (fun _ => 0) l.length := tab_congr (fun i hi => by
        show (if i < 0 then _ else (0 : Int)) = 0
        exact if_neg (by omega))
      rw [e1] at this
      have e2 : ∀ i, i < l.length → fD l D i = al l (mg l D) (D - OL l (mg l D)) i := fun i hi => by unfold fD; exact if_neg hD
      rw [tab_congr e2, sm_congr (f := cF l (fD l D)) (g := cF l (al l (mg l D) (D - OL l (mg l D)))) l.length (fun i hi => by unfold cF; rw [e2 i hi])]
      exact this
  · rw [if_neg h]
    exact Evt.ite_neg h (Evt.pure _)
def upd (f : Nat → Int) (b : Nat) (j : Nat) : Int := if j = b then f b + 1 else f j
theorem pk_lt (l : List Of) (f : Nat → Int) : ∀ d n b, n + d = l.length → b < l.length → pk l f d n b < l.length := by
  intro d
  induction d with
  | zero => intro n b _ hb; exact hb
  | succ d ih =>
    intro n b hn hb
    simp only [pk]
    refine ih (n + 1) _ (by omega) ?_
    split <;> omega
theorem Served_l1 (l : List Of) (h : Vals l) (f : Nat → Int) (hf : ∀ i, i < l.length → 0 ≤ f i ∧ f i ≤ 100000) (D d : Int) (hd : 0 ≤ d ∧ d ≤ 1000000) (r : List Int) :
    ∀ n, n ≤ l.length → ∀ b, b < l.length → Evt (fun k => gridhallref3_Served.l0 k l (tab (upd f (pk l f (l.length - n) n b)) l.length) D (d + 1)) r → Evt (fun k => gridhallref3_Served.l1 k l (tab f l.length) (b : Int) D d l (l.length : Int) (n : Int)) r := by
  have hl := h.len
  refine down ?_ ?_
  · intro b hb hr
    rw [Nat.sub_self] at hr
    simp only [pk] at hr
    refine Evt.succ ?_
    simp only [gridhallref3_Served.l1, tab_len]
    have := hf b hb
    rw [tab_get f hb, wrap64_of (x := f b + 1) (by omega) (by omega), tab_set, wrap64_of (x := d + 1) (by omega) (by omega)]
    exact Evt.ite_neg (by omega) (Evt.ite_pos (by omega) (Evt.ite_pos (by omega) hr))
  · intro n hn ih b hb hr
    obtain ⟨e, he⟩ : ∃ e, l.length - n = e + 1 := ⟨l.length - n - 1, by omega⟩
    rw [show l.length - (n + 1) = e by omega] at ih
    rw [he] at hr
    simp only [pk] at hr
    refine Evt.succ ?_
    simp only [gridhallref3_Served.l1, tab_len]
    refine Evt.ite_pos (by omega) (Evt.ite_pos (by omega) (Evt.ite_pos (by omega) (Evt.ite_pos (by omega) ?_)))
    simp only [rdO0, rdO1]
    rw [tab_get f hn, tab_get f hb, wrap64_nat (n := n) (by omega)]
    refine Evt.bind (Unit_ev _ _ (h.one n hn).2.1 _) (Evt.ite_pos (by omega) (Evt.ite_pos (by omega) (Evt.ite_pos (by omega) (Evt.bind (Unit_ev _ _ (h.one b hb).2.1 _) ?_))))
    refine Evt.ite (fun c => ih n hn ?_) (fun c => ih b hb ?_)
    · have c : UO l n (f n) < UO l b (f b) := c
      rw [if_pos c] at hr
      exact hr
    · have c : ¬ UO l n (f n) < UO l b (f b) := c
      rw [if_neg c] at hr
      exact hr
theorem Served_l0 (l : List Of) (h : Vals l) (m : Int) (hm : m ≤ 1000000) (D : Nat) (hD : (D : Int) ≤ 1000000) (hD2 : (D : Int) ≤ OM l m) (hD3 : OL l m ≤ D) : ∀ d, d ≤ D → ∀ f, Inv l m (d : Int) f → Evt (fun k => gridhallref3_Served.l0 k l (tab f l.length) (D : Int) (d : Int)) (tab (al l m (D - OL l m)) l.length) := by
  refine down ?_ ?_
  · intro f hI
    refine Evt.succ ?_
    simp only [gridhallref3_Served.l0]
    exact Evt.ite_neg (by omega) (Evt.of_eq (tab_congr (Inv_two h m D f hI hD3)))
  · intro d hd ih f hI
    have hbd := Inv_bd h m d f hI
    have hpos : 0 < l.length := by
      apply Decidable.byContradiction
      intro hc
      have e : l.length = 0 := by omega
      have : OM l m = 0 := by unfold OM; rw [e]; rfl
      omega
    refine Evt.succ ?_
    simp only [gridhallref3_Served.l0]
    refine Evt.ite_pos (by omega) ?_
    refine Served_l1 l h f (fun i hi => ?_) D d (by omega) _ 0 (by omega) 0 hpos ?_
    · have h1 := hbd i hi
      have h2 := N_bd h m i hi
      omega
    · obtain ⟨p1, p2, p3⟩ := pk_spec l f l.length 0 0 (.inl ⟨rfl, rfl⟩) (fun i hi => by omega) (fun i hi => by omega) (by omega)
      rw [Nat.zero_add] at p1 p2
      have := ih (upd f (pk l f l.length 0 0)) (Inv_step h m d hm f hI (by omega) (by omega) _ p1 p2 p3)
      exact this
theorem Inv_zero {l : List Of} (h : Vals l) (m : Int) : Inv l m 0 (fun _ => 0) := by
  refine .inl ⟨sm_nonneg _ (fun i hi => (N_bd h m i hi).1), fun i hi => ⟨Int.le_refl _, (N_bd h m i hi).1⟩, ?_⟩
  have : ∀ n, sm (fun _ => (0 : Int)) n = 0 := by
    intro n
    induction n with
    | zero => rfl
    | succ n ih => simp only [sm]; omega
  exact this _
theorem Served_ev (l : List Of) (h : Vals l) (m : Int) (hm : m ≤ 1000000) (D : Int) (hD0 : 0 ≤ D) (hD : D ≤ 1000000) (hD2 : D ≤ OM l m) (hD3 : OL l m ≤ D) : Evt (fun k => gridhallref3_Served.f k l D) (tab (al l m (D - OL l m)) l.length) := by
  have hl := h.len
  simp only [gridhallref3_Served.f]
  refine Evt.ite_pos (by omega) (Evt.ite_pos (by omega) ?_)
  rw [show ((l.length : Int)).toNat = l.length by omega, tab_zero]
  obtain ⟨d, rfl⟩ : ∃ d : Nat, D = d := ⟨D.toNat, by omega⟩
  exact Served_l0 l h m hm d hD hD2 hD3 0 (by omega) _ (Inv_zero h m)
theorem Served_zero (l : List Of) (h : Vals l) : Evt (fun k => gridhallref3_Served.f k l 0) (tab (fun _ => 0) l.length) := by
  have hl := h.len
  simp only [gridhallref3_Served.f]
  refine Evt.ite_pos (by omega) (Evt.ite_pos (by omega) ?_)
  rw [show ((l.length : Int)).toNat = l.length by omega, tab_zero]
  refine Evt.succ ?_
  simp only [gridhallref3_Served.l0]
  exact Evt.ite_neg (by omega) (Evt.pure _)
theorem Evt.unique {α : Type} {g : Nat → Option α} {a b : α} (h1 : Evt g a) (h2 : Evt g b) : a = b := by
  obtain ⟨K, h1⟩ := h1
  obtain ⟨M, h2⟩ := h2
  have e1 := h1 (K + M) (by omega)
  have e2 := h2 (K + M) (by omega)
  rw [e1] at e2
  exact Option.some.inj e2
theorem ServedD_ev (l : List Of) (D : Int) (h : chkR l D = 0) : Evt (fun k => gridhallref3_Served.f k l D) (tab (fD l D) l.length) := by
  obtain ⟨hv, _, h0, h1⟩ := chkR_ok h
  have hs := sumT_bd hv l.length (Nat.le_refl _)
  have hl := hv.len
  have es : sumT l = sm (lastT l) l.length := rfl
  by_cases hD : D = 0
  · subst hD
    refine Evt.cast (Served_zero l hv) (tab_congr (fun i hi => ?_))
    unfold fD
    rw [if_pos rfl]
  · have hm := mg_spec hv D (by omega) h1
    have hp := PL_bd hv hm.1
    refine Evt.cast (Served_ev l hv (mg l D) hp.2 D h0 (by omega) hm.2.2 (by omega)) (tab_congr (fun i hi => ?_))
    unfold fD
    rw [if_neg hD]
end Go.Proofs.Ytekpnmeikibioaa.CWelfareMoves
