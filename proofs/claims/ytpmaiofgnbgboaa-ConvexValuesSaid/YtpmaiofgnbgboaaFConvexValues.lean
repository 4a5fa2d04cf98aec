/- ConvexValues holds: for every convex function, argument and slope Check, At, Least and Conjugate return what the values say; the statement's own bound of 200 arguments, no other condition. -/
import Derived.Test.YtpmaiofgnbgboaaBConvexValues
import Derived.Test.YtpmaiofgnbgboaaRowConvexValues
namespace Go.Proofs.Ytpmaiofgnbgboaa.FConvexValues
open Go.RowKit Go.Proofs.YtpmaiofgnbgboaaW.PrintWords Go.Proofs.YtpmaiofgnbgboaaW.PrintMore Go.Proofs.Ytpmaiofgnbgboaa.Evs Go.Proofs.Ytpmaiofgnbgboaa.PConvexValues Go.Proofs.Ytpmaiofgnbgboaa.BConvexValues
set_option linter.unusedVariables false
set_option linter.unusedSimpArgs false
theorem high_l0 {a v : Int} {l : List Pc} (h : Cv a v l) : ∀ n, n ≤ l.length → Evt (fun k => convexpl_high.l0 k (xs a l n) l (l.length : Int) (n : Int)) (xs a l l.length) := by
  have hl := h.len
  refine down ?_ ?_
  · refine Evt.succ ?_
    simp only [convexpl_high.l0]
    exact Evt.ite_neg (by omega) (Evt.pure _)
  · intro n hn ih
    refine Evt.succ ?_
    simp only [convexpl_high.l0]
    refine Evt.ite_pos (by omega) (Evt.ite_pos (by omega) (Evt.ite_pos (by omega) ?_))
    simp only [rdc0]
    have hb := (h.pre (n + 1) (by omega)).1
    have e : xs a l n + ln l n = xs a l (n + 1) := rfl
    rw [e, wrap64_of (x := xs a l (n + 1)) (by omega) (by omega), wrap64_nat (by omega)]
    exact ih
theorem high_ev {a v : Int} {l : List Pc} (h : Cv a v l) : Evt (fun k => convexpl_high.f k a v l) (xs a l l.length) := by
  simp only [convexpl_high.f]
  exact high_l0 h 0 (by omega)
theorem value_l0 {a v : Int} {l : List Pc} (h : Cv a v l) (x : Int) (hx : a ≤ x) (hx2 : x ≤ 1000000) : ∀ n, n ≤ l.length → Evt (fun k => convexpl_value.l0 k x (fv a v l x n) (mn (xs a l n) x) l (l.length : Int) (n : Int)) (fv a v l x l.length) := by
  have hl := h.len
  have ha := (h.pre 0 (by omega)).1
  simp only [xs] at ha
  refine down ?_ ?_
  · refine Evt.succ ?_
    simp only [convexpl_value.l0]
    exact Evt.ite_neg (by omega) (Evt.pure _)
  · intro n hn ih
    refine Evt.succ ?_
    simp only [convexpl_value.l0]
    refine Evt.ite_pos (by omega) (Evt.ite_pos (by omega) (Evt.ite_pos (by omega) ?_))
    simp only [rdc0, rdc1]
    have hr := h.rng n hn
    obtain ⟨hr1, hr2, hr3, hr4⟩ := hr
    have hb := (h.pre n (by omega)).1
    have ex : xs a l (n + 1) = xs a l n + ln l n := rfl
    have hm : -1000000 ≤ mn (xs a l n) x ∧ mn (xs a l n) x ≤ x := by
      unfold mn
      split <;> omega
    have e1 : mn (ln l n) (x - mn (xs a l n) x) = cl a l x n := by
      unfold cl mn
      repeat' split
      all_goals omega
    have e2 : mn (xs a l n) x + cl a l x n = mn (xs a l (n + 1)) x := by unfold cl; omega
    have hm2 : -1000000 ≤ mn (xs a l (n + 1)) x ∧ mn (xs a l (n + 1)) x ≤ x := by
      unfold mn
      split <;> omega
    have hp := clp_bd h x hn
    have hf := fv_bd h x (n + 1) (by omega)
    have e3 : fv a v l x n + cl a l x n * sl l n = fv a v l x (n + 1) := rfl
    rw [wrap64_of (x := x - mn (xs a l n) x) (by omega) (by omega), e1, e2, wrap64_of (x := cl a l x n * sl l n) (by omega) (by omega), e3, wrap64_of (x := fv a v l x (n + 1)) (by omega) (by omega), wrap64_of (x := mn (xs a l (n + 1)) x) (by omega) (by omega), wrap64_nat (by omega)]
    exact ih
def atR (a v : Int) (l : List Pc) (x : Int) : Int × Int := if cvErr a v l = 0 then (if a ≤ x ∧ x ≤ xs a l l.length then (fv a v l x l.length, 0) else (0, 4)) else (0, cvErr a v l)
theorem At_ev (a v : Int) (l : List Pc) (x : Int) : Evt (fun k => convexpl_At.f k a v l x) (atR a v l x) := by
  simp only [convexpl_At.f]
  refine Evt.bind (CCheck_ev a v l) ?_
  unfold atR
  by_cases h : cvErr a v l = 0
  · rw [if_pos h]
    have hv := cvErr_ok h
    have hb := (hv.pre l.length (Nat.le_refl _)).1
    refine Evt.ite_pos h (Evt.ite (fun c => Evt.of_eq (if_neg (by omega)).symm) (fun c => Evt.bind (high_ev hv) (Evt.ite (fun c2 => Evt.of_eq (if_neg (by omega)).symm) (fun c2 => ?_))))
    rw [if_pos (by omega)]
    refine Evt.bind (g := fun k => convexpl_value.f k a v l x) ?_ (Evt.pure _)
    simp only [convexpl_value.f]
    have := value_l0 hv x (by omega) (by omega) 0 (by omega)
    simp only [xs, fv] at this
    rw [mn_le (by omega)] at this
    exact this
  · rw [if_neg h]
    exact Evt.ite_neg h (Evt.pure _)
theorem High_ev (a v : Int) (l : List Pc) : Evt (fun k => convexpl_High.f k a v l) (if cvErr a v l = 0 then (xs a l l.length, 0) else (0, cvErr a v l)) := by
  simp only [convexpl_High.f]
  refine Evt.bind (CCheck_ev a v l) ?_
  by_cases h : cvErr a v l = 0
  · rw [if_pos h]
    exact Evt.ite_pos h (Evt.bind (high_ev (cvErr_ok h)) (Evt.pure _))
  · rw [if_neg h]
    exact Evt.ite_neg h (Evt.pure _)
/-- The first piece from n on whose slope is at least s (d are left). -/
def fm (l : List Pc) (s : Int) : Nat → Nat → Nat
  | 0, n => n
  | d + 1, n => if sl l n ≥ s then n else fm l s d (n + 1)
theorem fm_spec (l : List Pc) (s : Int) : ∀ d n, n + d = l.length → n ≤ fm l s d n ∧ fm l s d n ≤ l.length ∧ (∀ m, n ≤ m → m < fm l s d n → sl l m < s) ∧ (fm l s d n < l.length → sl l (fm l s d n) ≥ s) := by
  intro d
  induction d with
  | zero => intro n hn; exact ⟨Nat.le_refl _, by simp only [fm]; omega, fun m a b => by simp only [fm] at b; omega, fun h => by simp only [fm] at h; omega⟩
  | succ d ih =>
    intro n hn
    simp only [fm]
    by_cases c : sl l n ≥ s
    · rw [if_pos c]
      exact ⟨Nat.le_refl _, by omega, fun m a b => by omega, fun _ => c⟩
    · rw [if_neg c]
      obtain ⟨h1, h2, h3, h4⟩ := ih (n + 1) (by omega)
      refine ⟨by omega, h2, fun m a b => ?_, h4⟩
      by_cases e : m = n
      · subst e
        omega
      · exact h3 m (by omega) b
theorem Least_l0 {a v : Int} {l : List Pc} (h : Cv a v l) : ∀ n, n ≤ l.length → Evt (fun k => convexpl_Least.l0 k (xs a l n) (ys v l n) l (l.length : Int) (n : Int)) (xs a l (fm l 0 (l.length - n) n), ys v l (fm l 0 (l.length - n) n), 0) := by
  have hl := h.len
  refine down ?_ ?_
  · refine Evt.succ ?_
    simp only [convexpl_Least.l0, Nat.sub_self, fm]
    exact Evt.ite_neg (by omega) (Evt.pure _)
  · intro n hn ih
    obtain ⟨d, hd⟩ : ∃ d, l.length - n = d + 1 := ⟨l.length - n - 1, by omega⟩
    rw [show l.length - (n + 1) = d by omega] at ih
    rw [hd]
    refine Evt.succ ?_
    simp only [convexpl_Least.l0]
    refine Evt.ite_pos (by omega) (Evt.ite_pos (by omega) (Evt.ite_pos (by omega) ?_))
    simp only [rdc0, rdc1]
    have hp := prod_bd (h.rng n hn)
    have hb := h.pre (n + 1) (by omega)
    obtain ⟨hb1, hb2, hb3⟩ := hb
    have ex : xs a l n + ln l n = xs a l (n + 1) := rfl
    have ey : ys v l n + ln l n * sl l n = ys v l (n + 1) := rfl
    rw [ex, wrap64_of (x := ln l n * sl l n) (by omega) (by omega), ey, wrap64_of (x := xs a l (n + 1)) (by omega) (by omega), wrap64_of (x := ys v l (n + 1)) (by omega) (by omega), wrap64_nat (by omega)]
    refine Evt.ite (fun c => ?_) (fun c => ?_)
    · rw [show fm l 0 (d + 1) n = n by simp only [fm]; exact if_pos c]
      exact Evt.pure _
    · rw [show fm l 0 (d + 1) n = fm l 0 d (n + 1) by simp only [fm]; exact if_neg c]
      exact ih
def leastR (a v : Int) (l : List Pc) : Int × Int × Int := if cvErr a v l = 0 then (xs a l (fm l 0 l.length 0), ys v l (fm l 0 l.length 0), 0) else (0, 0, cvErr a v l)
theorem Least_ev (a v : Int) (l : List Pc) : Evt (fun k => convexpl_Least.f k a v l) (leastR a v l) := by
  simp only [convexpl_Least.f]
  refine Evt.bind (CCheck_ev a v l) ?_
  unfold leastR
  by_cases h : cvErr a v l = 0
  · rw [if_pos h]
    exact Evt.ite_pos h (Least_l0 (cvErr_ok h) 0 (by omega))
  · rw [if_neg h]
    exact Evt.ite_neg h (Evt.pure _)
theorem sx_bd {a v : Int} {l : List Pc} (h : Cv a v l) (s : Int) (hs : -10000000 ≤ s ∧ s ≤ 10000000) (x : Int) (hx : -1000000 ≤ x ∧ x ≤ 1000000) : -10000000000000 ≤ s * x ∧ s * x ≤ 10000000000000 := by
  rcases Int.le_total 0 x with c | c
  · have := mulb (a := x) (b := s) (A := 1000000) (B := 10000000) c hx.2 hs.1 hs.2
    rw [Int.mul_comm]
    omega
  · have := mulb (a := -x) (b := s) (A := 1000000) (B := 10000000) (by omega) (by omega) hs.1 hs.2
    rw [Int.neg_mul] at this
    rw [Int.mul_comm]
    omega
theorem Conj_l0 {a v : Int} {l : List Pc} (h : Cv a v l) (s : Int) (hs : -10000000 ≤ s ∧ s ≤ 10000000) : ∀ n, n ≤ l.length → Evt (fun k => convexpl_Conjugate.l0 k s (xs a l n) (ys v l n) l (l.length : Int) (n : Int)) (s * xs a l (fm l s (l.length - n) n) - ys v l (fm l s (l.length - n) n), 0) := by
  have hl := h.len
  refine down ?_ ?_
  · refine Evt.succ ?_
    simp only [convexpl_Conjugate.l0, Nat.sub_self, fm]
    obtain ⟨hb1, hb2, hb3⟩ := h.pre l.length (Nat.le_refl _)
    have hx := sx_bd h s hs _ hb1
    rw [wrap64_of (x := s * xs a l l.length) (by omega) (by omega), wrap64_of (x := s * xs a l l.length - ys v l l.length) (by omega) (by omega)]
    exact Evt.ite_neg (by omega) (Evt.pure _)
  · intro n hn ih
    obtain ⟨d, hd⟩ : ∃ d, l.length - n = d + 1 := ⟨l.length - n - 1, by omega⟩
    rw [show l.length - (n + 1) = d by omega] at ih
    rw [hd]
    refine Evt.succ ?_
    simp only [convexpl_Conjugate.l0]
    refine Evt.ite_pos (by omega) (Evt.ite_pos (by omega) (Evt.ite_pos (by omega) ?_))
    simp only [rdc0, rdc1]
    have hp := prod_bd (h.rng n hn)
    obtain ⟨hb1, hb2, hb3⟩ := h.pre (n + 1) (by omega)
    obtain ⟨hc1, hc2, hc3⟩ := h.pre n (by omega)
    have hx := sx_bd h s hs _ hc1
    have ex : xs a l n + ln l n = xs a l (n + 1) := rfl
    have ey : ys v l n + ln l n * sl l n = ys v l (n + 1) := rfl
    rw [ex, wrap64_of (x := ln l n * sl l n) (by omega) (by omega), ey, wrap64_of (x := xs a l (n + 1)) (by omega) (by omega), wrap64_of (x := ys v l (n + 1)) (by omega) (by omega), wrap64_of (x := s * xs a l n) (by omega) (by omega), wrap64_of (x := s * xs a l n - ys v l n) (by omega) (by omega), wrap64_nat (by omega)]
    refine Evt.ite (fun c => ?_) (fun c => ?_)
    · rw [show fm l s (d + 1) n = n by simp only [fm]; exact if_pos c]
      exact Evt.pure _
    · rw [show fm l s (d + 1) n = fm l s d (n + 1) by simp only [fm]; exact if_neg c]
      exact ih
def conjR (a v : Int) (l : List Pc) (s : Int) : Int × Int := if cvErr a v l = 0 then (if -10000000 ≤ s ∧ s ≤ 10000000 then (s * xs a l (fm l s l.length 0) - ys v l (fm l s l.length 0), 0) else (0, 4)) else (0, cvErr a v l)
theorem Conj_ev (a v : Int) (l : List Pc) (s : Int) : Evt (fun k => convexpl_Conjugate.f k a v l s) (conjR a v l s) := by
  simp only [convexpl_Conjugate.f]
  refine Evt.bind (CCheck_ev a v l) ?_
  unfold conjR
  by_cases h : cvErr a v l = 0
  · rw [if_pos h]
    refine Evt.ite_pos h ?_
    by_cases c1 : s < -10000000
    · rw [if_neg (by omega)]
      refine Evt.ite_pos c1 (Evt.succ ?_)
      simp only [convexpl_Conjugate.j0]
      exact Evt.ite_pos (by simp) (Evt.pure _)
    · refine Evt.ite_neg c1 (Evt.succ ?_)
      simp only [convexpl_Conjugate.j0]
      by_cases c2 : s > 10000000
      · rw [if_neg (by omega)]
        exact Evt.ite_pos (decide_eq_true c2) (Evt.pure _)
      · rw [if_pos (by omega)]
        exact Evt.ite_neg (by simpa using c2) (Conj_l0 (cvErr_ok h) s (by omega) 0 (by omega))
  · rw [if_neg h]
    exact Evt.ite_neg h (Evt.pure _)
/-- In which piece an argument lies. -/
theorem piece_of {a v : Int} {l : List Pc} (h : Cv a v l) (x : Int) (h0 : a ≤ x) : ∀ n, n ≤ l.length → x < xs a l n → ∃ m, m < n ∧ xs a l m ≤ x ∧ x < xs a l (m + 1) := by
  intro n
  induction n with
  | zero => intro _ hx; simp only [xs] at hx; omega
  | succ n ih =>
    intro hn hx
    by_cases c : x < xs a l n
    · obtain ⟨m, h1, h2, h3⟩ := ih (by omega) c
      exact ⟨m, by omega, h2, h3⟩
    · exact ⟨n, by omega, by omega, hx⟩
/-- The function minus a slope falls strictly up to the first piece of at least this slope, and rises from there on. -/
theorem G_steps {a v : Int} {l : List Pc} (h : Cv a v l) (s : Int) (i : Nat) (hi : a + i < xs a l l.length) :
    (a + i < xs a l (fm l s l.length 0) → F a v l (i + 1) < F a v l i + s) ∧ (xs a l (fm l s l.length 0) ≤ a + i → F a v l i + s ≤ F a v l (i + 1)) := by
  obtain ⟨m, hm, h1, h2⟩ := piece_of h (a + i) (by omega) l.length (Nat.le_refl _) hi
  have e := F_succ h i m hm h1 h2
  obtain ⟨f1, f2, f3, f4⟩ := fm_spec l s l.length 0 (by omega)
  refine ⟨fun c => ?_, fun c => ?_⟩
  · have hlt : m < fm l s l.length 0 := by
      apply Decidable.byContradiction
      intro hc
      have := xs_mono h (i := fm l s l.length 0) (j := m) (by omega) (by omega)
      omega
    have := f3 m (by omega) hlt
    omega
  · have hle : fm l s l.length 0 ≤ m := by
      apply Decidable.byContradiction
      intro hc
      have := xs_mono h (i := m + 1) (j := fm l s l.length 0) (by omega) f2
      omega
    have hs := f4 (by omega)
    by_cases e2 : fm l s l.length 0 = m
    · rw [e2] at hs
      omega
    · have := sl_mono h (i := fm l s l.length 0) (j := m) (by omega) hm
      omega
section
variable {a v : Int} {l : List Pc} (h : Cv a v l)
include h
/-- The place of the first piece of at least a slope, from the beginning. -/
theorem place (s : Int) : ∃ p : Nat, xs a l (fm l s l.length 0) = a + p ∧ (p : Int) ≤ xs a l l.length - a ∧ F a v l p = ys v l (fm l s l.length 0) := by
  obtain ⟨f1, f2, f3, f4⟩ := fm_spec l s l.length 0 (by omega)
  have h0 := xs_mono h (i := 0) (j := fm l s l.length 0) (by omega) f2
  have h1 := xs_mono h (i := fm l s l.length 0) (j := l.length) f2 (Nat.le_refl _)
  simp only [xs] at h0
  refine ⟨(xs a l (fm l s l.length 0) - a).toNat, by omega, by omega, ?_⟩
  have := fv_xs h (fm l s l.length 0) f2 l.length (Nat.le_refl _)
  rw [Nat.min_eq_right f2] at this
  unfold F
  rw [show a + (((xs a l (fm l s l.length 0) - a).toNat : Nat) : Int) = xs a l (fm l s l.length 0) by omega]
  exact this
/-- The search of the least value: at place n the first least one is min p (n - 1). -/
theorem law_l1 (N p : Nat) (hN : xs a l l.length = a + N) (hp : xs a l (fm l 0 l.length 0) = a + p) (hpN : p ≤ N) (x2 x10 x11 x13 x14 : Int) (h10 : x10 = a + p) (h11 : x11 = F a v l p)
    (hr : Evt (fun k => gridhalllaw3_ConvexValues.j4 k x2 x13 x14 (FL a v l (N + 1)) false a v l) true) :
    ∀ n, n ≤ N + 1 → Evt (fun k => gridhalllaw3_ConvexValues.l1 k x2 x10 x11 0 x13 x14 (FL a v l (N + 1)) (min p (n - 1) : Nat) (FL a v l (N + 1)) ((N + 1 : Nat) : Int) (n : Int) a v l) true := by
  have hb := (h.pre l.length (Nat.le_refl _)).1
  have hb0 := (h.pre 0 (by omega)).1
  simp only [xs] at hb0
  have mono : ∀ i j : Nat, p ≤ i → i ≤ j → j ≤ N → F a v l i ≤ F a v l j := by
    intro i j hi hij hj
    induction j with
    | zero =>
      have : i = 0 := by omega
      rw [this]
      exact Int.le_refl _
    | succ j ih =>
      by_cases e : i = j + 1
      · rw [e]
        exact Int.le_refl _
      · have h1 := ih (by omega) (by omega)
        have h2 := (G_steps h 0 j (by omega)).2 (by omega)
        omega
  refine down ?_ ?_
  · refine Evt.succ ?_
    simp only [gridhalllaw3_ConvexValues.l1, FL_len]
    rw [show min p (N + 1 - 1) = p by omega, FL_get a v l (show p < N + 1 by omega), wrap64_of (x := a + (p : Int)) (by omega) (by omega)]
    refine Evt.ite_neg (by omega) (Evt.ite_pos trivial (Evt.ite_pos h10 (Evt.ite_pos (by omega) (Evt.ite_pos (by omega) ?_))))
    rw [h11]
    simpa using hr
  · intro n hn ih
    refine Evt.succ ?_
    simp only [gridhalllaw3_ConvexValues.l1, FL_len]
    refine Evt.ite_pos (by omega) (Evt.ite_pos (by omega) (Evt.ite_pos (by omega) (Evt.ite_pos (by omega) (Evt.ite_pos (by omega) ?_))))
    rw [FL_get a v l hn, FL_get a v l (show min p (n - 1) < N + 1 by omega), wrap64_nat (n := n) (by omega)]
    rw [show n + 1 - 1 = n by omega] at ih
    by_cases c : 0 < n ∧ n ≤ p
    · have h1 := (G_steps h 0 (n - 1) (by omega)).1 (by omega)
      rw [show n - 1 + 1 = n by omega] at h1
      rw [show min p (n - 1) = n - 1 by omega]
      refine Evt.ite_pos (by omega) ?_
      rw [show min p n = n by omega] at ih
      exact ih
    · rw [show min p n = min p (n - 1) by omega] at ih
      refine Evt.ite_neg ?_ ih
      by_cases c2 : n = 0
      · subst c2
        rw [show min p (0 - 1) = 0 by omega]
        omega
      · rw [show min p (n - 1) = p by omega]
        have := mono p n (by omega) (by omega) (by omega)
        omega
/-- The greatest of the first values of a slope minus the function. -/
def bestG (a v : Int) (l : List Pc) (s : Int) : Nat → Int
  | 0 => s * a - F a v l 0
  | n + 1 => mx (bestG a v l s n) (s * (a + n) - F a v l n)
omit h in
theorem smul (s : Int) (i : Nat) : s * (a + ((i + 1 : Nat) : Int)) = s * (a + (i : Int)) + s := by
  rw [show a + ((i + 1 : Nat) : Int) = (a + (i : Int)) + 1 by omega, Int.mul_add, Int.mul_one]
theorem bestG_eq (s : Int) (N p : Nat) (hN : xs a l l.length = a + N) (hp : xs a l (fm l s l.length 0) = a + p) (hpN : p ≤ N) : ∀ n, n ≤ N + 1 → bestG a v l s n = s * (a + ((min p (n - 1) : Nat) : Int)) - F a v l (min p (n - 1)) := by
  have mono : ∀ i j : Nat, p ≤ i → i ≤ j → j ≤ N → s * (a + (j : Int)) - F a v l j ≤ s * (a + (i : Int)) - F a v l i := by
    intro i j hi hij hj
    induction j with
    | zero =>
      have : i = 0 := by omega
      rw [this]
      exact Int.le_refl _
    | succ j ih =>
      by_cases e : i = j + 1
      · rw [e]
        exact Int.le_refl _
      · have h1 := ih (by omega) (by omega)
        have h2 := (G_steps h s j (by omega)).2 (by omega)
        have h3 := smul (a := a) s j
        omega
  intro n
  induction n with
  | zero =>
    intro _
    rw [show min p (0 - 1) = 0 by omega]
    simp [bestG]
  | succ n ih =>
    intro hn
    simp only [bestG]
    rw [ih (by omega), show n + 1 - 1 = n by omega]
    by_cases c : 0 < n ∧ n ≤ p
    · have h1 := (G_steps h s (n - 1) (by omega)).1 (by omega)
      have h3 := smul (a := a) s (n - 1)
      rw [show n - 1 + 1 = n by omega] at h1 h3
      rw [show min p (n - 1) = n - 1 by omega, show min p n = n by omega]
      exact mx_le (by omega)
    · rw [show min p n = min p (n - 1) by omega]
      refine mx_ge ?_
      by_cases c2 : n = 0
      · subst c2
        rw [show min p (0 - 1) = 0 by omega]
        exact Int.le_refl _
      · rw [show min p (n - 1) = p by omega]
        exact mono p n (by omega) (by omega) (by omega)
theorem law_l2 (s : Int) (hs : -10000000 ≤ s ∧ s ≤ 10000000) (N : Nat) (hN : xs a l l.length = a + N) (x13 : Int) (h13 : x13 = bestG a v l s (N + 1)) :
    ∀ n, n ≤ N + 1 → Evt (fun k => gridhalllaw3_ConvexValues.l2 k s x13 0 (bestG a v l s n) (FL a v l (N + 1)) ((N + 1 : Nat) : Int) (n : Int) a v l) true := by
  have hb := (h.pre l.length (Nat.le_refl _)).1
  have hb0 := (h.pre 0 (by omega)).1
  simp only [xs] at hb0
  refine down ?_ ?_
  · refine Evt.succ ?_
    simp only [gridhalllaw3_ConvexValues.l2]
    exact Evt.ite_neg (by omega) (Evt.ite_pos trivial (Evt.of_eq (by simp [h13])))
  · intro n hn ih
    refine Evt.succ ?_
    simp only [gridhalllaw3_ConvexValues.l2, FL_len]
    refine Evt.ite_pos (by omega) (Evt.ite_pos (by omega) (Evt.ite_pos (by omega) ?_))
    have hx := sx_bd h s hs (a + n) (by omega)
    have hF := F_bd h n
    rw [FL_get a v l hn, wrap64_of (x := a + (n : Int)) (by omega) (by omega), wrap64_of (x := s * (a + (n : Int))) (by omega) (by omega), wrap64_of (x := s * (a + (n : Int)) - F a v l n) (by omega) (by omega), wrap64_nat (n := n) (by omega)]
    exact ih
theorem law_j4 (s x13 x14 : Int) (hr : (x13, x14) = conjR a v l s) (h0 : cvErr a v l = 0) (N : Nat) (hN : xs a l l.length = a + N) : Evt (fun k => gridhalllaw3_ConvexValues.j4 k s x13 x14 (FL a v l (N + 1)) false a v l) true := by
  refine Evt.succ ?_
  simp only [gridhalllaw3_ConvexValues.j4, in_eq, Option.bind_some, FL_len]
  refine Evt.ite_neg (by simp) ?_
  unfold conjR at hr
  rw [if_pos h0] at hr
  by_cases hs : -10000000 ≤ s ∧ s ≤ 10000000
  · rw [if_pos hs] at hr
    simp only [Prod.mk.injEq] at hr
    obtain ⟨r1, r2⟩ := hr
    subst r2
    obtain ⟨p, hp, hp2, hp3⟩ := place h s
    have hb0 := (h.pre 0 (by omega)).1
    simp only [xs] at hb0
    have hx := sx_bd h s hs a hb0
    have hF := F_bd h 0
    refine Evt.ite_pos (decide_eq_true hs) (Evt.ite_pos (by omega) ?_)
    have e0 : rd (FL a v l (N + 1)) 0 = F a v l 0 := FL_get a v l (show 0 < N + 1 by omega)
    rw [e0, wrap64_of (x := s * a) (by omega) (by omega), wrap64_of (x := s * a - F a v l 0) (by omega) (by omega)]
    refine law_l2 h s hs N hN x13 ?_ 0 (by omega)
    rw [bestG_eq h s N p hN hp (by omega) (N + 1) (Nat.le_refl _), show min p (N + 1 - 1) = p by omega, r1, hp, hp3]
  · rw [if_neg hs] at hr
    simp only [Prod.mk.injEq] at hr
    obtain ⟨r1, r2⟩ := hr
    subst r1
    subst r2
    exact Evt.ite_neg (fun hh => hs (of_decide_eq_true hh)) (Evt.ite_pos rfl (Evt.of_eq rfl))
theorem law_l0 (x y x8 x9 x10 x11 x12 x13 x14 : Int) (h0 : cvErr a v l = 0) (hA : (x8, x9) = atR a v l x) (hL : (x10, x11, x12) = leastR a v l) (hC : (x13, x14) = conjR a v l y) (x15 : Int) (h15 : x15 = xs a l l.length) :
    ∀ n, n ≤ l.length → Evt (fun k => gridhalllaw3_ConvexValues.l0 k x y x8 x9 x10 x11 x12 x13 x14 x15 0 (xs a l n - a) l (l.length : Int) (n : Int) a v l) true := by
  have hl := h.len
  have hb0 := (h.pre 0 (by omega)).1
  simp only [xs] at hb0
  refine down ?_ ?_
  · have hb := (h.pre l.length (Nat.le_refl _)).1
    refine Evt.succ ?_
    simp only [gridhalllaw3_ConvexValues.l0]
    rw [show a + (xs a l l.length - a) = xs a l l.length by omega, wrap64_of (x := xs a l l.length) (by omega) (by omega), h15]
    refine Evt.ite_neg (by omega) (Evt.ite_pos trivial (Evt.succ ?_))
    simp only [gridhalllaw3_ConvexValues.j1, in_eq, Option.bind_some]
    refine Evt.ite_neg (by simp) (Evt.ite (fun c => Evt.pure _) (fun c => Evt.bind (Values_ev h) ?_))
    have hm := xs_mono h (i := 0) (j := l.length) (by omega) (Nat.le_refl _)
    simp only [xs] at hm
    obtain ⟨N, hN⟩ : ∃ N : Nat, xs a l l.length = a + N := ⟨(xs a l l.length - a).toNat, by omega⟩
    have eN : (xs a l l.length - a).toNat + 1 = N + 1 := by omega
    rw [eN]
    have j2 : Evt (fun k => gridhalllaw3_ConvexValues.j2 k y x10 x11 x12 x13 x14 (FL a v l (N + 1)) a v l) true := by
      refine Evt.succ ?_
      simp only [gridhalllaw3_ConvexValues.j2, FL_len]
      obtain ⟨p, hp, hp2, hp3⟩ := place h 0
      unfold leastR at hL
      rw [if_pos h0] at hL
      simp only [Prod.mk.injEq] at hL
      obtain ⟨r1, r2, r3⟩ := hL
      subst r3
      have := law_l1 h N p hN hp (by omega) y x10 x11 x13 x14 (by omega) (by rw [r2, hp3]) (law_j4 h y x13 x14 hC h0 N hN) 0 (by omega)
      rw [show min p (0 - 1) = 0 by omega] at this
      exact this
    unfold atR at hA
    rw [if_pos h0] at hA
    by_cases hx : a ≤ x ∧ x ≤ xs a l l.length
    · rw [if_pos hx] at hA
      simp only [Prod.mk.injEq] at hA
      obtain ⟨r1, r2⟩ := hA
      obtain ⟨q, hq⟩ : ∃ q : Nat, x = a + q := ⟨(x - a).toNat, by omega⟩
      have eq : wrap64 (x - a) = (q : Int) := by rw [wrap64_of (x := x - a) (by omega) (by omega)]; omega
      rw [eq, FL_get a v l (show q < N + 1 by omega), FL_len]
      refine Evt.ite_pos (decide_eq_true hx) (Evt.ite_pos r2 (Evt.ite_pos (by omega) (Evt.ite_pos (by omega) (Evt.ite_pos ?_ j2))))
      rw [r1, hq]
      rfl
    · rw [if_neg hx] at hA
      simp only [Prod.mk.injEq] at hA
      exact Evt.ite_neg (fun hh => hx (of_decide_eq_true hh)) (Evt.ite_pos hA.2 (Evt.ite_pos hA.1 j2))
  · intro n hn ih
    refine Evt.succ ?_
    simp only [gridhalllaw3_ConvexValues.l0]
    refine Evt.ite_pos (by omega) (Evt.ite_pos (by omega) (Evt.ite_pos (by omega) ?_))
    simp only [rdc0]
    have hb := (h.pre (n + 1) (by omega)).1
    have e : xs a l n - a + ln l n = xs a l (n + 1) - a := by simp only [xs]; omega
    rw [e, wrap64_of (x := xs a l (n + 1) - a) (by omega) (by omega), wrap64_nat (by omega)]
    exact ih
end
theorem pure : Go.Proofs.Ytpmaiofgnbgboaa.RConvexValues.Pure := by
  intro a v l x y _ _ _ _ _
  refine Evt.ex ?_
  simp only [gridhalllaw3_ConvexValues.f]
  have hs : Evt (fun k => gridhalllaw3_slopes.f k) true := by
    simp only [gridhalllaw3_slopes.f, gridhalllaw3_rises.f, Option.bind_some]
    refine Evt.bind (At_ev _ _ _ _) ?_
    have e : atR 0 0 [(⟨10, 5⟩ : Pc), ⟨10, 8⟩] 12 = (66, 0) := by decide +kernel
    rw [e]
    exact Evt.ite_pos rfl (Evt.pure _)
  refine Evt.bind hs (Evt.ite_pos rfl (Evt.bind (ConvexError_ev a v l) (Evt.bind (CCheck_ev a v l) (Evt.ite_pos rfl (Evt.bind (At_ev a v l x) (Evt.bind (Least_ev a v l) (Evt.bind (Conj_ev a v l y) (Evt.bind (High_ev a v l) ?_))))))))
  by_cases h : cvErr a v l = 0
  · refine Evt.ite_pos h ?_
    have hv := cvErr_ok h
    rw [if_pos h]
    have := law_l0 hv x y (atR a v l x).1 (atR a v l x).2 (leastR a v l).1 (leastR a v l).2.1 (leastR a v l).2.2 (conjR a v l y).1 (conjR a v l y).2 h rfl rfl rfl (xs a l l.length) rfl 0 (by omega)
    simp only [xs, Int.sub_self] at this
    exact this
  · refine Evt.ite_neg h ?_
    rw [if_neg h]
    have e1 : atR a v l x = (0, cvErr a v l) := by unfold atR; rw [if_neg h]
    have e2 : leastR a v l = (0, 0, cvErr a v l) := by unfold leastR; rw [if_neg h]
    have e3 : conjR a v l y = (0, cvErr a v l) := by unfold conjR; rw [if_neg h]
    rw [e1, e2, e3]
    exact Evt.ite_pos rfl (Evt.ite_pos rfl (Evt.ite_pos rfl (Evt.ite_pos rfl (Evt.ite_pos rfl (Evt.ite_pos rfl (Evt.ite_pos rfl (Evt.ite_pos rfl (Evt.of_eq rfl))))))))
theorem ConvexValues_holds : Rows.ConvexValuesSaid := Go.Proofs.Ytpmaiofgnbgboaa.RConvexValues.said pure
#print axioms ConvexValues_holds
end Go.Proofs.Ytpmaiofgnbgboaa.FConvexValues
