/- WelfareMoves holds: for all offers and powers Waste says what the cheapest dispatch would save, and Move the unit that saves most; the statement's own bound of 200 units, no other condition. -/
import Derived.Test.YtekpnmeikibioaaCWelfareMoves
import Derived.Test.YtekpnmeikibioaaMWelfareMoves
import Derived.Test.YtekpnmeikibioaaRowWelfareMoves
namespace Go.Proofs.Ytekpnmeikibioaa.FWelfareMoves
open Go.RowKit Go.Proofs.YtekpnmeikibioaaW.PrintWords Go.Proofs.YtekpnmeikibioaaW.PrintMore Go.Proofs.Ytekpnmeikibioaa.Evs Go.Proofs.Ytekpnmeikibioaa.PWelfareMoves Go.Proofs.Ytekpnmeikibioaa.BWelfareMoves Go.Proofs.Ytekpnmeikibioaa.CWelfareMoves Go.Proofs.Ytekpnmeikibioaa.MWelfareMoves
set_option linter.unusedVariables false
set_option linter.unusedSimpArgs false
/-! one unit from generator i to generator k; what the powers cost -/
def G (l : List Of) (ps : List Int) (i : Nat) : Prop := 0 ≤ pn ps i ∧ pn ps i ≤ lastT l i
instance (l : List Of) (ps : List Int) (i : Nat) : Decidable (G l ps i) := inferInstanceAs (Decidable (_ ∧ _))
def fC (l : List Of) (ps : List Int) (i : Nat) : Int := cstO l i (pn ps i)
def dcR (l : List Of) (ps : List Int) : Nat → Nat → Int → Int → Int × Int × Int
  | 0, _, c, s => (c, s, 0)
  | d + 1, n, c, s => if G l ps n then dcR l ps d (n + 1) (c + cstO l n (pn ps n)) (s + pn ps n) else (0, 0, 4)
theorem dispatch_l0 (l : List Of) (h : Vals l) (ps : List Int) (hp : ps.length = l.length) : ∀ n, n ≤ l.length → ∀ c s : Int, -1200000000000 * (n : Int) ≤ c → c ≤ 1200000000000 * (n : Int) → 0 ≤ s → s ≤ 100000 * (n : Int) →
    Evt (fun k => dispatch_Cost.l0 k ps c s l (l.length : Int) (n : Int)) (dcR l ps (l.length - n) n c s) := by
  have hl := h.len
  refine down ?_ ?_
  · intro c s _ _ _ _
    refine Evt.succ ?_
    simp only [dispatch_Cost.l0, Nat.sub_self, dcR]
    exact Evt.ite_neg (by omega) (Evt.pure _)
  · intro n hn ih c s h1 h2 h3 h4
    obtain ⟨d, hd⟩ : ∃ d, l.length - n = d + 1 := ⟨l.length - n - 1, by omega⟩
    rw [show l.length - (n + 1) = d by omega] at ih
    rw [hd]
    refine Evt.succ ?_
    simp only [dispatch_Cost.l0]
    refine Evt.ite_pos (by omega) (Evt.ite_pos (by omega) (Evt.ite_pos (by omega) (Evt.ite_pos (by omega) ?_)))
    simp only [rdO0, rdO1, rdp]
    refine Evt.bind (Cost_ev _ _ _) ?_
    have ho := (h.one n hn).2.2.1
    have hc := cstO_bd h n hn (pn ps n)
    have ht := lastT_bd h n hn
    by_cases c1 : 0 ≤ pn ps n ∧ pn ps n ≤ lastT l n
    · have e : costR (nmO l n) (stO l n) (pn ps n) = (cstO l n (pn ps n), 0) := by
        unfold costR
        rw [if_pos ho]
        exact if_pos c1
      rw [e]
      have e2 : dcR l ps (d + 1) n c s = dcR l ps d (n + 1) (c + cstO l n (pn ps n)) (s + pn ps n) := by simp only [dcR]; exact if_pos c1
      rw [e2, wrap64_of (x := c + cstO l n (pn ps n)) (by omega) (by omega), wrap64_of (x := s + pn ps n) (by omega) (by omega), wrap64_nat (by omega)]
      exact Evt.ite_pos rfl (ih _ _ (by omega) (by omega) (by omega) (by omega))
    · have e : costR (nmO l n) (stO l n) (pn ps n) = (0, 4) := by
        unfold costR
        rw [if_pos ho]
        exact if_neg c1
      rw [e]
      have e2 : dcR l ps (d + 1) n c s = (0, 0, 4) := by simp only [dcR]; exact if_neg c1
      rw [e2]
      exact Evt.ite_neg (by decide) (Evt.pure _)
theorem dcR_good (l : List Of) (ps : List Int) (hg : ∀ i, i < l.length → G l ps i) : ∀ d n, n + d = l.length → dcR l ps d n (sm (fC l ps) n) (sm (pn ps) n) = (sm (fC l ps) l.length, sm (pn ps) l.length, 0) := by
  intro d
  induction d with
  | zero =>
    intro n hn
    have hn : n = l.length := by omega
    rw [hn]
    rfl
  | succ d ih =>
    intro n hn
    simp only [dcR]
    rw [if_pos (hg n (by omega))]
    exact ih (n + 1) (by omega)
theorem dcR_bad (l : List Of) (ps : List Int) (i : Nat) (hi : i < l.length) (hb : ¬ G l ps i) : ∀ d n, n + d = l.length → n ≤ i → ∀ c s, dcR l ps d n c s = (0, 0, 4) := by
  intro d
  induction d with
  | zero => intro n hn hni; omega
  | succ d ih =>
    intro n hn hni c s
    simp only [dcR]
    by_cases e : n = i
    · subst e
      exact if_neg hb
    · split
      · exact ih (n + 1) (by omega) (by omega) _ _
      · rfl
def errR (l : List Of) (ps : List Int) : Int := if offsErr l = 0 then (if ps.length = l.length then (if ∀ i, i < l.length → G l ps i then 0 else 4) else 3) else offsErr l
def dispR (l : List Of) (ps : List Int) : Int × Int × Int := if errR l ps = 0 then (sm (fC l ps) l.length, sm (pn ps) l.length, 0) else (0, 0, errR l ps)
theorem errR_ok {l : List Of} {ps : List Int} (h : errR l ps = 0) : offsErr l = 0 ∧ Vals l ∧ ps.length = l.length ∧ ∀ i, i < l.length → G l ps i := by
  unfold errR at h
  by_cases h1 : offsErr l = 0
  · rw [if_pos h1] at h
    by_cases h2 : ps.length = l.length
    · rw [if_pos h2] at h
      by_cases h3 : ∀ i, i < l.length → G l ps i
      · exact ⟨h1, offsErr_val h1, h2, h3⟩
      · rw [if_neg h3] at h
        omega
    · rw [if_neg h2] at h
      omega
  · rw [if_neg h1] at h
    exact absurd h h1
theorem dispatch_ev (l : List Of) (ps : List Int) : Evt (fun k => dispatch_Cost.f k l ps) (dispR l ps) := by
  simp only [dispatch_Cost.f]
  refine Evt.bind (offer_CheckAll_ev l) ?_
  unfold dispR errR
  by_cases h : offsErr l = 0
  · rw [if_pos h]
    refine Evt.ite_pos h ?_
    by_cases h2 : ps.length = l.length
    · rw [if_pos h2]
      have := dispatch_l0 l (offsErr_val h) ps h2 0 (by omega) 0 0 (by omega) (by omega) (by omega) (by omega)
      refine Evt.ite_pos (by omega) (Evt.cast this ?_)
      by_cases h3 : ∀ i, i < l.length → G l ps i
      · rw [if_pos h3, if_pos rfl]
        exact dcR_good l ps h3 l.length 0 (by omega)
      · rw [if_neg h3, if_neg (by omega)]
        have : ∃ i, i < l.length ∧ ¬ G l ps i := by
          apply Classical.byContradiction
          intro hh
          exact h3 (fun i hi => Classical.byContradiction (fun hb => hh ⟨i, hi, hb⟩))
        obtain ⟨i, hi, hb⟩ := this
        exact dcR_bad l ps i hi hb l.length 0 (by omega) (by omega) 0 0
    · rw [if_neg h2, if_neg (by omega)]
      exact Evt.ite_neg (by omega) (Evt.pure _)
  · rw [if_neg h, if_neg h]
    exact Evt.ite_neg h (Evt.pure _)
/-! bounds -/
theorem UO_bd {l : List Of} (h : Vals l) (i : Nat) (hi : i < l.length) (p : Int) : -2000000 ≤ UO l i p ∧ UO l i p ≤ 2000000 := by
  have hv := (h.one i hi).2.1
  have key : ∀ d n, n + d = (stO l i).length → -2000000 ≤ untF (stO l i) p d n ∧ untF (stO l i) p d n ≤ 2000000 := by
    intro d
    induction d with
    | zero => intro n _; simp only [untF]; omega
    | succ d ih =>
      intro n hn
      have hr := hv.rng n (by omega)
      simp only [untF]
      split
      · omega
      · exact ih (n + 1) (by omega)
  exact key _ 0 (by omega)
theorem fC_bd {l : List Of} (h : Vals l) (ps : List Int) : ∀ n, n ≤ l.length → -1200000000000 * (n : Int) ≤ sm (fC l ps) n ∧ sm (fC l ps) n ≤ 1200000000000 * (n : Int) := by
  intro n
  induction n with
  | zero => intro _; simp [sm]
  | succ n ih =>
    intro hn
    have h0 := ih (by omega)
    have h1 := cstO_bd h n (by omega) (pn ps n)
    have e : sm (fC l ps) (n + 1) = sm (fC l ps) n + cstO l n (pn ps n) := rfl
    rw [e]
    omega
theorem ps_bd {l : List Of} (h : Vals l) (ps : List Int) (hg : ∀ i, i < l.length → G l ps i) : ∀ n, n ≤ l.length → 0 ≤ sm (pn ps) n ∧ sm (pn ps) n ≤ sm (lastT l) n ∧ sm (lastT l) n ≤ 100000 * (n : Int) := by
  intro n
  induction n with
  | zero => intro _; simp [sm]
  | succ n ih =>
    intro hn
    have h0 := ih (by omega)
    have h1 := lastT_bd h n (by omega)
    obtain ⟨h2, h3⟩ := hg n (by omega)
    simp only [sm]
    omega
theorem chk_ok {l : List Of} {ps : List Int} (h : errR l ps = 0) : chkR l (sm (pn ps) l.length) = 0 := by
  obtain ⟨h1, hv, _, hg⟩ := errR_ok h
  have hb := ps_bd hv ps hg l.length (Nat.le_refl _)
  have hl := hv.len
  have es : sumT l = sm (lastT l) l.length := rfl
  unfold chkR
  rw [if_pos h1, if_pos (by omega), if_neg (by omega)]
/-! Waste and Move -/
def wstR (l : List Of) (ps : List Int) : Int × Int := if errR l ps = 0 then (sm (fC l ps) l.length - sm (cF l (fD l (sm (pn ps) l.length))) l.length, 0) else (0, errR l ps)
theorem Waste_ev (l : List Of) (ps : List Int) : Evt (fun k => welfare_Waste.f k l ps) (wstR l ps) := by
  simp only [welfare_Waste.f]
  refine Evt.bind (dispatch_ev l ps) ?_
  unfold wstR dispR
  by_cases h : errR l ps = 0
  · rw [if_pos h, if_pos h]
    refine Evt.ite_pos rfl (Evt.bind (Best_ev l _) ?_)
    obtain ⟨h1, hv, _, hg⟩ := errR_ok h
    have hl := hv.len
    have hb1 := fC_bd hv ps l.length (Nat.le_refl _)
    have hb2 := cF_bd hv (fD l (sm (pn ps) l.length)) l.length (Nat.le_refl _)
    have e : bestR l (sm (pn ps) l.length) = (tab (fD l (sm (pn ps) l.length)) l.length, sm (cF l (fD l (sm (pn ps) l.length))) l.length, 0) := by
      unfold bestR
      exact if_pos (chk_ok h)
    rw [e]
    have ew := wrap64_of (x := sm (fC l ps) l.length - sm (cF l (fD l (sm (pn ps) l.length))) l.length) (by omega) (by omega)
    exact Evt.ite_pos rfl (Evt.of_eq (congrArg (fun z => (z, (0 : Int))) ew))
  · rw [if_neg h, if_neg h]
    exact Evt.ite_neg h (Evt.pure _)
def mvS (l : List Of) (ps : List Int) (i k : Nat) (s : Int × Int × Int) : Int × Int × Int :=
  if i ≠ k ∧ 0 < pn ps i ∧ pn ps k < lastT l k ∧ s.2.2 < UO l i (pn ps i - 1) - UO l k (pn ps k) then ((i : Int), (k : Int), UO l i (pn ps i - 1) - UO l k (pn ps k)) else s
def mvI (l : List Of) (ps : List Int) (i : Nat) : Nat → Nat → Int × Int × Int → Int × Int × Int
  | 0, _, s => s
  | d + 1, k, s => mvI l ps i d (k + 1) (mvS l ps i k s)
def mvO (l : List Of) (ps : List Int) : Nat → Nat → Int × Int × Int → Int × Int × Int
  | 0, _, s => s
  | d + 1, i, s => mvO l ps d (i + 1) (mvI l ps i l.length 0 s)
def moved (m : Int × Int × Int) : Int × Int × Int × Int := if m.2.2 = 0 then (0, 0, 0, 8) else (m.1, m.2.1, m.2.2, 0)
section
variable {l : List Of} {ps : List Int} (h : Vals l) (hp : ps.length = l.length) (hg : ∀ i, i < l.length → G l ps i)
include h hp hg
omit hp in
theorem marg_at (k : Nat) (hk : k < l.length) : margR (nmO l k) (stO l k) (pn ps k) = (margA (stO l k) (pn ps k) (stO l k).length 0, UO l k (pn ps k), 0) := by
  unfold margR
  rw [if_pos (h.one k hk).2.2.1]
  exact if_pos (hg k hk)
theorem Move_l1 (i : Nat) (hi : i < l.length) (X : Int) (hX : 0 < pn ps i → X = UO l i (pn ps i - 1)) (r : Int × Int × Int × Int) : ∀ k, k ≤ l.length → ∀ s : Int × Int × Int,
    Evt (fun q => welfare_Move.l0 q l ps (mvI l ps i (l.length - k) k s).1 (mvI l ps i (l.length - k) k s).2.1 (mvI l ps i (l.length - k) k s).2.2 l (l.length : Int) ((i + 1 : Nat) : Int)) r →
    Evt (fun q => welfare_Move.l1 q l ps s.1 s.2.1 s.2.2 (i : Int) X l (l.length : Int) (i : Int) l (l.length : Int) (k : Int)) r := by
  have hl := h.len
  refine down ?_ ?_
  · intro s hr
    rw [Nat.sub_self] at hr
    simp only [mvI] at hr
    refine Evt.succ ?_
    simp only [welfare_Move.l1]
    rw [wrap64_nat (n := i) (by omega)]
    exact Evt.ite_neg (by omega) hr
  · intro k hk ih s hr
    obtain ⟨d, hd⟩ : ∃ d, l.length - k = d + 1 := ⟨l.length - k - 1, by omega⟩
    rw [show l.length - (k + 1) = d by omega] at ih
    rw [hd] at hr
    simp only [mvI] at hr
    refine Evt.succ ?_
    simp only [welfare_Move.l1]
    refine Evt.ite_pos (by omega) (Evt.ite_pos (by omega) (Evt.ite_pos (by omega) (Evt.ite_pos (by omega) ?_)))
    simp only [rdO0, rdO1, rdp]
    refine Evt.bind (Marg_ev _ _ _) ?_
    rw [marg_at h hg k hk, wrap64_nat (n := k) (by omega)]
    have skip : ¬ (i ≠ k ∧ 0 < pn ps i ∧ pn ps k < lastT l k ∧ s.2.2 < UO l i (pn ps i - 1) - UO l k (pn ps k)) → Evt (fun q => welfare_Move.l1 q l ps s.1 s.2.1 s.2.2 (i : Int) X l (l.length : Int) (i : Int) l (l.length : Int) ((k + 1 : Nat) : Int)) r := by
      intro hn
      have e : mvS l ps i k s = s := if_neg hn
      rw [e] at hr
      exact ih s hr
    have hb1 := UO_bd h i hi (pn ps i - 1)
    have hb2 := UO_bd h k hk (pn ps k)
    refine Evt.ite (fun c => skip (fun hh => hh.1 (by omega))) (fun c => Evt.ite_pos (by omega) (Evt.ite_pos (by omega) (Evt.ite (fun c2 => Evt.bind (Most_ev _ _ (h.one k hk).2.1) (Evt.ite (fun c3 => ?_) (fun c3 => skip (fun hh => c3 hh.2.2.1)))) (fun c2 => skip (fun hh => c2 hh.2.1)))))
    have hX := hX c2
    subst hX
    rw [wrap64_of (x := UO l i (pn ps i - 1) - UO l k (pn ps k)) (by omega) (by omega)]
    refine Evt.ite (fun c4 => ?_) (fun c4 => skip (fun hh => c4 hh.2.2.2))
    have e : mvS l ps i k s = ((i : Int), (k : Int), UO l i (pn ps i - 1) - UO l k (pn ps k)) := if_pos ⟨by omega, c2, c3, c4⟩
    rw [e] at hr
    exact ih _ hr
theorem Move_l0 : ∀ i, i ≤ l.length → ∀ s : Int × Int × Int, Evt (fun q => welfare_Move.l0 q l ps s.1 s.2.1 s.2.2 l (l.length : Int) (i : Int)) (moved (mvO l ps (l.length - i) i s)) := by
  have hl := h.len
  refine down ?_ ?_
  · intro s
    rw [Nat.sub_self]
    refine Evt.succ ?_
    simp only [welfare_Move.l0, mvO]
    refine Evt.ite_neg (by omega) (Evt.ite (fun c => Evt.of_eq ?_) (fun c => Evt.of_eq ?_))
    · exact (if_pos c).symm
    · exact (if_neg c).symm
  · intro i hi ih s
    obtain ⟨d, hd⟩ : ∃ d, l.length - i = d + 1 := ⟨l.length - i - 1, by omega⟩
    rw [show l.length - (i + 1) = d by omega] at ih
    rw [hd]
    refine Evt.succ ?_
    simp only [welfare_Move.l0, mvO]
    refine Evt.ite_pos (by omega) (Evt.ite_pos (by omega) (Evt.ite_pos (by omega) (Evt.ite_pos (by omega) ?_)))
    simp only [rdO0, rdO1, rdp]
    refine Evt.bind (Marg_ev _ _ _) ?_
    rw [marg_at h hg i hi]
    refine Move_l1 h hp hg i hi _ (fun h0 => ?_) _ 0 (by omega) s (ih _)
    exact marg_unit (h.one i hi).2.1 _ h0 (hg i hi).2
end
def movR (l : List Of) (ps : List Int) : Int × Int × Int × Int := if errR l ps = 0 then moved (mvO l ps l.length 0 (0, 0, 0)) else (0, 0, 0, errR l ps)
theorem Move_ev (l : List Of) (ps : List Int) : Evt (fun k => welfare_Move.f k l ps) (movR l ps) := by
  simp only [welfare_Move.f]
  refine Evt.bind (dispatch_ev l ps) ?_
  unfold movR dispR
  by_cases h : errR l ps = 0
  · rw [if_pos h, if_pos h]
    obtain ⟨h1, hv, h2, hg⟩ := errR_ok h
    exact Evt.ite_pos rfl (Move_l0 hv h2 hg 0 (by omega) (0, 0, 0))
  · rw [if_neg h, if_neg h]
    exact Evt.ite_neg h (Evt.pure _)
/-! the law -/
section
variable {l : List Of} {ps : List Int} (h : Vals l) (hp : ps.length = l.length) (hg : ∀ i, i < l.length → G l ps i) (M : Int × Int × Int × Int)
include h hp hg
theorem law_l3 (i : Nat) (hi : i < l.length) (r : Bool) : ∀ k, k ≤ l.length → ∀ s : Int × Int × Int,
    Evt (fun q => gridhalllaw3_WelfareMoves.l2 q l ps M.1 M.2.1 M.2.2.1 M.2.2.2 (mvI l ps i (l.length - k) k s).1 (mvI l ps i (l.length - k) k s).2.1 (mvI l ps i (l.length - k) k s).2.2 l (l.length : Int) ((i + 1 : Nat) : Int)) r →
    Evt (fun q => gridhalllaw3_WelfareMoves.l3 q l ps M.1 M.2.1 M.2.2.1 M.2.2.2 s.1 s.2.1 s.2.2 (i : Int) l (l.length : Int) (i : Int) l (l.length : Int) (k : Int) (nmO l i) (stO l i)) r := by
  have hl := h.len
  refine down ?_ ?_
  · intro s hr
    rw [Nat.sub_self] at hr
    simp only [mvI] at hr
    refine Evt.succ ?_
    simp only [gridhalllaw3_WelfareMoves.l3]
    rw [wrap64_nat (n := i) (by omega)]
    exact Evt.ite_neg (by omega) hr
  · intro k hk ih s hr
    obtain ⟨d, hd⟩ : ∃ d, l.length - k = d + 1 := ⟨l.length - k - 1, by omega⟩
    rw [show l.length - (k + 1) = d by omega] at ih
    rw [hd] at hr
    simp only [mvI] at hr
    have skip : ¬ (i ≠ k ∧ 0 < pn ps i ∧ pn ps k < lastT l k ∧ s.2.2 < UO l i (pn ps i - 1) - UO l k (pn ps k)) → Evt (fun q => gridhalllaw3_WelfareMoves.l3 q l ps M.1 M.2.1 M.2.2.1 M.2.2.2 s.1 s.2.1 s.2.2 (i : Int) l (l.length : Int) (i : Int) l (l.length : Int) ((k + 1 : Nat) : Int) (nmO l i) (stO l i)) r := by
      intro hn
      have e : mvS l ps i k s = s := if_neg hn
      rw [e] at hr
      exact ih s hr
    have no : ∀ b : Bool, b = false → ¬ (i ≠ k ∧ 0 < pn ps i ∧ pn ps k < lastT l k ∧ s.2.2 < UO l i (pn ps i - 1) - UO l k (pn ps k)) → Evt (fun q => gridhalllaw3_WelfareMoves.j9 q l ps M.1 M.2.1 M.2.2.1 M.2.2.2 s.1 s.2.1 s.2.2 (i : Int) (k : Int) l (l.length : Int) (i : Int) l (l.length : Int) (k : Int) b (nmO l i) (stO l i) (nmO l k) (stO l k)) r := by
      intro b hb hn
      subst hb
      refine Evt.succ ?_
      simp only [gridhalllaw3_WelfareMoves.j9]
      rw [wrap64_nat (n := k) (by omega)]
      exact Evt.ite_neg (by simp) (skip hn)
    have hb1 := UO_bd h i hi (pn ps i - 1)
    have hb2 := UO_bd h k hk (pn ps k)
    obtain ⟨hi1, hi2⟩ := hg i hi
    have hit := lastT_bd h i hi
    refine Evt.succ ?_
    simp only [gridhalllaw3_WelfareMoves.l3]
    refine Evt.ite_pos (by omega) (Evt.ite_pos (by omega) (Evt.ite_pos (by omega) ?_))
    simp only [rdO0, rdO1, rdp]
    refine Evt.ite (fun c => no _ rfl (fun hh => hh.1 (by omega))) (fun c => Evt.ite_pos (by omega) (Evt.ite_pos (by omega) (Evt.ite (fun c2 => Evt.ite_pos (by omega) (Evt.bind (All_ev _ _ (h.one k hk).2.1) ?_)) (fun c2 => no _ rfl (fun hh => c2 hh.2.1)))))
    by_cases c3 : pn ps k < lastT l k
    · refine Evt.succ ?_
      simp only [gridhalllaw3_WelfareMoves.j9]
      refine Evt.ite_pos (decide_eq_true c3) (Evt.ite_pos (by omega) (Evt.ite_pos (by omega) ?_))
      simp only [rdp]
      rw [wrap64_of (x := pn ps i - 1) (by omega) (by omega)]
      refine Evt.bind (Unit_ev _ _ (h.one i hi).2.1 _) (Evt.ite_pos (by omega) (Evt.ite_pos (by omega) (Evt.bind (Unit_ev _ _ (h.one k hk).2.1 _) ?_)))
      have e1 : untF (stO l i) (pn ps i - 1) (stO l i).length 0 = UO l i (pn ps i - 1) := rfl
      have e2 : untF (stO l k) (pn ps k) (stO l k).length 0 = UO l k (pn ps k) := rfl
      rw [e1, e2, wrap64_of (x := UO l i (pn ps i - 1) - UO l k (pn ps k)) (by omega) (by omega), wrap64_nat (n := k) (by omega)]
      refine Evt.ite (fun c4 => ?_) (fun c4 => skip (fun hh => c4 hh.2.2.2))
      have e : mvS l ps i k s = ((i : Int), (k : Int), UO l i (pn ps i - 1) - UO l k (pn ps k)) := if_pos ⟨by omega, c2, c3, c4⟩
      rw [e] at hr
      exact ih _ hr
    · exact no _ (decide_eq_false c3) (fun hh => c3 hh.2.2.1)
theorem law_l2 (m : Int × Int × Int) (hM : M = moved m) : ∀ i, i ≤ l.length → ∀ s : Int × Int × Int, mvO l ps (l.length - i) i s = m → Evt (fun q => gridhalllaw3_WelfareMoves.l2 q l ps M.1 M.2.1 M.2.2.1 M.2.2.2 s.1 s.2.1 s.2.2 l (l.length : Int) (i : Int)) true := by
  have hl := h.len
  refine down ?_ ?_
  · intro s hs
    rw [Nat.sub_self] at hs
    simp only [mvO] at hs
    subst hs
    refine Evt.succ ?_
    simp only [gridhalllaw3_WelfareMoves.l2]
    refine Evt.ite_neg (by omega) (Evt.ite (fun c => ?_) (fun c => ?_))
    · have e : M = (0, 0, 0, 8) := by rw [hM]; exact if_pos c
      subst e
      exact Evt.ite_pos rfl (Evt.ite_pos rfl (Evt.ite_pos rfl (Evt.of_eq rfl)))
    · have e : M = (s.1, s.2.1, s.2.2, 0) := by rw [hM]; exact if_neg c
      subst e
      exact Evt.ite_pos rfl (Evt.ite_pos rfl (Evt.ite_pos rfl (Evt.of_eq (by simp))))
  · intro i hi ih s hs
    obtain ⟨d, hd⟩ : ∃ d, l.length - i = d + 1 := ⟨l.length - i - 1, by omega⟩
    rw [show l.length - (i + 1) = d by omega] at ih
    rw [hd] at hs
    simp only [mvO] at hs
    refine Evt.succ ?_
    simp only [gridhalllaw3_WelfareMoves.l2]
    refine Evt.ite_pos (by omega) (Evt.ite_pos (by omega) (Evt.ite_pos (by omega) ?_))
    simp only [rdO0, rdO1]
    exact law_l3 h hp hg M i hi true 0 (by omega) s (ih _ hs)
theorem law_l1 (W : Int × Int) (D : Int) (hD : D = sm (pn ps) l.length) (hW : W = (sm (fC l ps) l.length - sm (cF l (fD l D)) l.length, 0)) (hM : M = moved (mvO l ps l.length 0 (0, 0, 0))) : ∀ n, n ≤ l.length →
    Evt (fun q => gridhalllaw3_WelfareMoves.l1 q l ps W.1 W.2 M.1 M.2.1 M.2.2.1 M.2.2.2 (sm (fC l ps) l.length - sm (cF l (fD l D)) n) (tab (fD l D) l.length) (l.length : Int) (n : Int)) true := by
  have hl := h.len
  have hb1 := fC_bd h ps l.length (Nat.le_refl _)
  refine down ?_ ?_
  · refine Evt.succ ?_
    simp only [gridhalllaw3_WelfareMoves.l1]
    subst hW
    refine Evt.ite_neg (by omega) (Evt.ite_pos rfl (Evt.succ ?_))
    simp only [gridhalllaw3_WelfareMoves.j6]
    exact Evt.ite_neg (by simp) (law_l2 h hp hg M _ hM 0 (by omega) (0, 0, 0) rfl)
  · intro n hn ih
    refine Evt.succ ?_
    simp only [gridhalllaw3_WelfareMoves.l1, tab_len]
    refine Evt.ite_pos (by omega) (Evt.ite_pos (by omega) (Evt.ite_pos (by omega) (Evt.ite_pos (by omega) ?_)))
    simp only [rdO0, rdO1]
    rw [tab_get _ hn]
    refine Evt.bind (refCost_ev _ _ (h.one n hn).2.1 _) ?_
    have hb2 := cF_bd h (fD l D) n (by omega)
    have hb3 := cF_bd h (fD l D) (n + 1) (by omega)
    have e : sm (fC l ps) l.length - sm (cF l (fD l D)) n - cst (stO l n) (fD l D n) (stO l n).length = sm (fC l ps) l.length - sm (cF l (fD l D)) (n + 1) := by
      have e0 : sm (cF l (fD l D)) (n + 1) = sm (cF l (fD l D)) n + cst (stO l n) (fD l D n) (stO l n).length := rfl
      omega
    rw [e, wrap64_of (x := sm (fC l ps) l.length - sm (cF l (fD l D)) (n + 1)) (by omega) (by omega), wrap64_nat (by omega)]
    exact ih
end
theorem j4_err (l : List Of) (ps : List Int) (W : Int × Int) (M : Int × Int × Int × Int) (e : Int) (he : e ≠ 0) (hW : W = (0, e)) (hM : M = (0, 0, 0, e)) (S C n : Int) : Evt (fun q => gridhalllaw3_WelfareMoves.l0 q l ps W.1 W.2 M.1 M.2.1 M.2.2.1 M.2.2.2 e S C n) true := by
  have out : ∀ b : Bool, b = false → Evt (fun q => gridhalllaw3_WelfareMoves.j4 q l ps W.1 W.2 M.1 M.2.1 M.2.2.1 M.2.2.2 e S C n b) true := by
    intro b hb
    subst hb hW hM
    refine Evt.succ ?_
    simp only [gridhalllaw3_WelfareMoves.j4]
    exact Evt.ite_neg (by simp) (Evt.ite_neg he (Evt.ite_pos trivial (Evt.ite_pos trivial (Evt.ite_pos trivial (Evt.ite_pos trivial (Evt.ite_pos trivial (Evt.of_eq rfl)))))))
  refine Evt.succ ?_
  simp only [gridhalllaw3_WelfareMoves.l0]
  exact Evt.ite (fun _ => out _ (by simpa using he)) (fun _ => out _ rfl)
theorem law_l0 (l : List Of) (ps : List Int) (h0 : offsErr l = 0) (hp : ps.length = l.length) : ∀ n, n ≤ l.length → (∀ i, i < n → G l ps i) →
    Evt (fun q => gridhalllaw3_WelfareMoves.l0 q l ps (wstR l ps).1 (wstR l ps).2 (movR l ps).1 (movR l ps).2.1 (movR l ps).2.2.1 (movR l ps).2.2.2 0 (sm (pn ps) n) (sm (fC l ps) n) (n : Int)) true := by
  have h := offsErr_val h0
  have hl := h.len
  refine down ?_ ?_
  · intro hg
    have he : errR l ps = 0 := by
      unfold errR
      rw [if_pos h0, if_pos hp, if_pos hg]
    refine Evt.succ ?_
    simp only [gridhalllaw3_WelfareMoves.l0]
    refine Evt.ite_neg (by omega) (Evt.succ ?_)
    simp only [gridhalllaw3_WelfareMoves.j4]
    refine Evt.ite_neg (by simp) (Evt.ite_pos trivial (Evt.ite (fun _ => Evt.pure _) (fun _ => Evt.bind (ServedD_ev l _ (chk_ok he)) ?_)))
    rw [tab_len]
    have := law_l1 h hp hg (movR l ps) (wstR l ps) _ rfl (by unfold wstR; exact if_pos he) (by unfold movR; exact if_pos he) 0 (by omega)
    simp only [sm, Int.sub_zero] at this
    exact this
  · intro n hn ih hg
    refine Evt.succ ?_
    simp only [gridhalllaw3_WelfareMoves.l0]
    refine Evt.ite_pos (by omega) (Evt.succ ?_)
    simp only [gridhalllaw3_WelfareMoves.j4]
    refine Evt.ite_pos (by simp) (Evt.ite_pos (by omega) (Evt.ite_pos (by omega) (Evt.ite_pos (by omega) ?_)))
    simp only [rdO0, rdO1, rdp]
    refine Evt.bind (All_ev _ _ (h.one n hn).2.1) ?_
    simp only [in_eq, Option.bind_some]
    by_cases c1 : G l ps n
    · refine Evt.ite_pos (decide_eq_true c1) (Evt.bind (refCost_ev _ _ (h.one n hn).2.1 _) ?_)
      have e1 : sm (pn ps) n + pn ps n = sm (pn ps) (n + 1) := rfl
      have e2 : sm (fC l ps) n + cst (stO l n) (pn ps n) (stO l n).length = sm (fC l ps) (n + 1) := rfl
      have hb := fC_bd h ps (n + 1) (by omega)
      have hb2 : ∀ m, m ≤ n + 1 → 0 ≤ sm (pn ps) m ∧ sm (pn ps) m ≤ 100000 * (m : Int) := by
        intro m
        induction m with
        | zero => intro _; simp [sm]
        | succ m ihm =>
          intro hm
          have a0 := ihm (by omega)
          have a1 := lastT_bd h m (by omega)
          have a2 : G l ps m := by
            by_cases e : m = n
            · rw [e]; exact c1
            · exact hg m (by omega)
          obtain ⟨a3, a4⟩ := a2
          simp only [sm]
          omega
      have hb2 := hb2 (n + 1) (by omega)
      rw [e1, e2, wrap64_of (x := sm (pn ps) (n + 1)) (by omega) (by omega), wrap64_of (x := sm (fC l ps) (n + 1)) (by omega) (by omega), wrap64_nat (by omega)]
      refine ih (fun i hi => ?_)
      by_cases e : i = n
      · rw [e]; exact c1
      · exact hg i (by omega)
    · have he : errR l ps = 4 := by
        unfold errR
        rw [if_pos h0, if_pos hp, if_neg (fun hh => c1 (hh n hn))]
      refine Evt.ite_neg (fun hh => c1 (of_decide_eq_true hh)) (j4_err l ps _ _ 4 (by omega) ?_ ?_ _ _ _)
      · unfold wstR
        rw [he]
        exact if_neg (by omega)
      · unfold movR
        rw [he]
        exact if_neg (by omega)
theorem j0_ev (l : List Of) (ps : List Int) (b : Bool) (hb : b = false) : Evt (fun k => gridhalllaw3_WelfareMoves.j0 k l ps b) true := by
  subst hb
  refine Evt.succ ?_
  simp only [gridhalllaw3_WelfareMoves.j0]
  refine Evt.ite_neg (by simp) (Evt.bind (Waste_ev l ps) (Evt.bind (Move_ev l ps) (Evt.bind (gridhallref3_OffersError_ev l) ?_)))
  have err : ∀ e : Int, e ≠ 0 → errR l ps = e → Evt (fun k => gridhalllaw3_WelfareMoves.j2 k l ps (wstR l ps).1 (wstR l ps).2 (movR l ps).1 (movR l ps).2.1 (movR l ps).2.2.1 (movR l ps).2.2.2 e) true := by
    intro e he hd
    refine Evt.succ ?_
    simp only [gridhalllaw3_WelfareMoves.j2]
    refine j4_err l ps _ _ e he ?_ ?_ _ _ _
    · unfold wstR
      rw [hd]
      exact if_neg he
    · unfold movR
      rw [hd]
      exact if_neg he
  by_cases h : offsErr l = 0
  · refine Evt.ite_pos h (Evt.succ ?_)
    simp only [gridhalllaw3_WelfareMoves.j1]
    by_cases h2 : ps.length = l.length
    · refine Evt.ite_neg (by simp [h2]) ?_
      refine Evt.succ ?_
      simp only [gridhalllaw3_WelfareMoves.j2, h]
      exact law_l0 l ps h h2 0 (by omega) (fun i hi => by omega)
    · refine Evt.ite_pos (by simp; omega) (err 3 (by omega) ?_)
      unfold errR
      rw [if_pos h, if_neg h2]
  · refine Evt.ite_neg h (Evt.succ ?_)
    simp only [gridhalllaw3_WelfareMoves.j1]
    refine Evt.ite_neg (by simp) (err _ h ?_)
    unfold errR
    rw [if_neg h]
theorem pure : Go.Proofs.Ytekpnmeikibioaa.RWelfareMoves.Pure := by
  intro l ps _ _
  refine Evt.ex ?_
  simp only [gridhalllaw3_WelfareMoves.f, gridhalllaw3_two.f, Option.bind_some]
  refine Evt.bind (Move_ev _ _) ?_
  have e : movR [(⟨⟨#[65]⟩, [⟨10, 5⟩, ⟨10, 8⟩]⟩ : Of), ⟨⟨#[66]⟩, [⟨10, 5⟩, ⟨10, 8⟩]⟩] [12, 2] = (0, 1, 3, 0) := by decide +kernel
  rw [e]
  exact Evt.ite_pos rfl (Evt.ite_pos rfl (Evt.ite_pos rfl (j0_ev l ps _ rfl)))
theorem WelfareMoves_holds : Rows.WelfareMovesSaid := Go.Proofs.Ytekpnmeikibioaa.RWelfareMoves.said pure
#print axioms WelfareMoves_holds
end Go.Proofs.Ytekpnmeikibioaa.FWelfareMoves
