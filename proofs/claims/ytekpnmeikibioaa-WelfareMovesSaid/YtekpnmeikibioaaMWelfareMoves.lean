/- What the marginal prices are. -/
import Derived.Test.YtekpnmeikibioaaBWelfareMoves
namespace Go.Proofs.Ytekpnmeikibioaa.MWelfareMoves
open Go.RowKit Go.Proofs.YtekpnmeikibioaaW.PrintWords Go.Proofs.YtekpnmeikibioaaW.PrintMore Go.Proofs.Ytekpnmeikibioaa.Evs Go.Proofs.Ytekpnmeikibioaa.PWelfareMoves Go.Proofs.Ytekpnmeikibioaa.BWelfareMoves
set_option linter.unusedVariables false
set_option linter.unusedSimpArgs false
/-- The last price below p: n steps were looked at. -/
def lastP (l : List St) (p : Int) : Nat → Int
  | 0 => -2000000
  | n + 1 => if tot l n < p then pr l n else lastP l p n
def margA (l : List St) (p : Int) : Nat → Nat → Int
  | 0, n => lastP l p n
  | d + 1, n => if p < tot l (n + 1) then lastP l p (n + 1) else margA l p d (n + 1)
theorem Marg_l0 (l : List St) (h : Val l) (p : Int) : ∀ n, n ≤ l.length → Evt (fun k => offer_Marginal.l0 k p (lastP l p n) 2000000 (tot l n) l (l.length : Int) (n : Int)) (margA l p (l.length - n) n, untF l p (l.length - n) n, 0) := by
  have hl := h.len
  refine down ?_ ?_
  · refine Evt.succ ?_
    simp only [offer_Marginal.l0, Nat.sub_self, margA, untF]
    exact Evt.ite_neg (by omega) (Evt.pure _)
  · intro n hn ih
    obtain ⟨d, hd⟩ : ∃ d, l.length - n = d + 1 := ⟨l.length - n - 1, by omega⟩
    rw [show l.length - (n + 1) = d by omega] at ih
    rw [hd]
    refine Evt.succ ?_
    simp only [offer_Marginal.l0]
    refine Evt.ite_pos (by omega) (Evt.ite_pos (by omega) (Evt.ite_pos (by omega) ?_))
    simp only [rd0, rd1]
    have hb := h.bd n (by omega)
    have hr := h.rng n hn
    rw [wrap64_of (x := tot l n + pw l n) (by omega) (by omega), wrap64_nat (by omega)]
    have e1 : ∀ c : p < tot l (n + 1), margA l p (d + 1) n = lastP l p (n + 1) := fun c => by simp only [margA]; exact if_pos c
    have e2 : ∀ c : ¬ p < tot l (n + 1), margA l p (d + 1) n = margA l p d (n + 1) := fun c => by simp only [margA]; exact if_neg c
    have e3 : ∀ c : p < tot l (n + 1), untF l p (d + 1) n = pr l n := fun c => by simp only [untF]; exact if_pos c
    have e4 : ∀ c : ¬ p < tot l (n + 1), untF l p (d + 1) n = untF l p d (n + 1) := fun c => by simp only [untF]; exact if_neg c
    refine Evt.ite (fun c => ?_) (fun c => ?_)
    · have e : lastP l p (n + 1) = pr l n := by simp only [lastP]; exact if_pos c
      refine Evt.ite (fun c2 => ?_) (fun c2 => ?_)
      · rw [e1 c2, e3 c2, e]
        exact Evt.pure _
      · rw [e2 c2, e4 c2]
        rw [e] at ih
        exact ih
    · have e : lastP l p (n + 1) = lastP l p n := by simp only [lastP]; exact if_neg c
      refine Evt.ite (fun c2 => ?_) (fun c2 => ?_)
      · rw [e1 c2, e3 c2, e]
        exact Evt.pure _
      · rw [e2 c2, e4 c2]
        rw [e] at ih
        exact ih
/-- What Marginal answers. -/
def margR (s : ByteArray) (l : List St) (p : Int) : Int × Int × Int := if offErr s l = 0 then (if 0 ≤ p ∧ p ≤ tot l l.length then (margA l p l.length 0, untF l p l.length 0, 0) else (0, 0, 4)) else (0, 0, offErr s l)
theorem Marg_ev (s : ByteArray) (l : List St) (p : Int) : Evt (fun k => offer_Marginal.f k s l p) (margR s l p) := by
  simp only [offer_Marginal.f]
  refine Evt.bind (Check_ev s l) ?_
  unfold margR
  by_cases h : offErr s l = 0
  · rw [if_pos h]
    refine Evt.ite_pos h ?_
    have hv := (offErr_val h).2
    have hb := hv.bd l.length (Nat.le_refl _)
    by_cases h1 : p < 0
    · rw [if_neg (by omega)]
      refine Evt.ite_pos h1 (Evt.succ ?_)
      simp only [offer_Marginal.j0]
      exact Evt.ite_pos (by simp) (Evt.pure _)
    · refine Evt.ite_neg h1 (Evt.bind (Most_ev s l hv) (Evt.succ ?_))
      simp only [offer_Marginal.j0]
      by_cases h2 : p > tot l l.length
      · rw [if_neg (by omega)]
        exact Evt.ite_pos (decide_eq_true h2) (Evt.pure _)
      · rw [if_pos (by omega)]
        refine Evt.ite_neg (by simpa using h2) ?_
        exact Marg_l0 l hv p 0 (by omega)
  · rw [if_neg h]
    exact Evt.ite_neg h (Evt.pure _)
theorem step_of (l : List St) (p : Int) (h0 : 0 < p) : ∀ n, p ≤ tot l n → ∃ m, m < n ∧ tot l m < p ∧ p ≤ tot l (m + 1) := by
  intro n
  induction n with
  | zero => intro h; simp [tot] at h; omega
  | succ n ih =>
    intro h
    by_cases c : p ≤ tot l n
    · obtain ⟨m, h1, h2, h3⟩ := ih c
      exact ⟨m, by omega, h2, h3⟩
    · exact ⟨n, by omega, by omega, h⟩
theorem tot_le {l : List St} (h : Val l) {a b : Nat} (hab : a ≤ b) (hb : b ≤ l.length) : tot l a ≤ tot l b :=
  (tot_mono (n := b) (fun m hm => (h.rng m (by omega)).1) a hab).2
theorem lastP_zero {l : List St} (h : Val l) : ∀ n, n ≤ l.length → lastP l 0 n = -2000000 := by
  intro n
  induction n with
  | zero => intro _; rfl
  | succ n ih =>
    intro hn
    have := h.bd n (by omega)
    simp only [lastP]
    rw [if_neg (by omega)]
    exact ih (by omega)
theorem margA_zero {l : List St} (h : Val l) : ∀ d n, n + d = l.length → margA l 0 d n = -2000000 := by
  intro d
  induction d with
  | zero => intro n hn; exact lastP_zero h n (by omega)
  | succ d ih =>
    intro n hn
    simp only [margA]
    split
    · exact lastP_zero h (n + 1) (by omega)
    · exact ih (n + 1) (by omega)
theorem lastP_at {l : List St} (h : Val l) (p : Int) (m : Nat) (h1 : tot l m < p) (h2 : p ≤ tot l (m + 1)) : ∀ n, m < n → n ≤ l.length → lastP l p n = pr l m := by
  intro n
  induction n with
  | zero => intro a _; omega
  | succ n ih =>
    intro a b
    simp only [lastP]
    by_cases e : n = m
    · subst e
      exact if_pos h1
    · have := tot_le h (a := m + 1) (b := n) (by omega) (by omega)
      rw [if_neg (by omega)]
      exact ih (by omega) (by omega)
theorem margA_at {l : List St} (h : Val l) (p : Int) (m : Nat) (hm : m < l.length) (h1 : tot l m < p) (h2 : p ≤ tot l (m + 1)) : ∀ d n, n + d = l.length → margA l p d n = pr l m := by
  intro d
  induction d with
  | zero => intro n hn; exact lastP_at h p m h1 h2 n (by omega) (by omega)
  | succ d ih =>
    intro n hn
    simp only [margA]
    by_cases c : p < tot l (n + 1)
    · rw [if_pos c]
      refine lastP_at h p m h1 h2 (n + 1) ?_ (by omega)
      apply Decidable.byContradiction
      intro e
      have := tot_le h (a := n + 1) (b := m) (by omega) (by omega)
      omega
    · rw [if_neg c]
      exact ih (n + 1) (by omega)
theorem untF_at {l : List St} (h : Val l) (p : Int) (m : Nat) (hm : m < l.length) (h1 : tot l m < p) (h2 : p ≤ tot l (m + 1)) : ∀ d n, n ≤ m → n + d = l.length → untF l (p - 1) d n = pr l m := by
  intro d
  induction d with
  | zero => intro n a b; omega
  | succ d ih =>
    intro n a b
    simp only [untF]
    by_cases c : p - 1 < tot l (n + 1)
    · rw [if_pos c]
      by_cases e : n = m
      · rw [e]
      · have := tot_le h (a := n + 1) (b := m) (by omega) (by omega)
        omega
    · rw [if_neg c]
      by_cases e : n = m
      · subst e
        omega
      · exact ih (n + 1) (by omega) (by omega)
theorem marg_unit {l : List St} (h : Val l) (p : Int) (h0 : 0 < p) (h1 : p ≤ tot l l.length) : margA l p l.length 0 = untF l (p - 1) l.length 0 := by
  obtain ⟨m, hm, a, b⟩ := step_of l p h0 l.length h1
  rw [margA_at h p m hm a b _ _ (by omega), untF_at h p m hm a b _ _ (by omega) (by omega)]
end Go.Proofs.Ytekpnmeikibioaa.MWelfareMoves
