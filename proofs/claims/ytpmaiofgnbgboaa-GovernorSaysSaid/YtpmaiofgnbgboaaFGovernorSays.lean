/- GovernorSays holds: for every setup, power and deviation Check, Target and Next return what the reference returns; no condition. -/
import Derived.Test.YtpmaiofgnbgboaaEvs
import Derived.Test.YtpmaiofgnbgboaaRowGovernorSays
namespace Go.Proofs.Ytpmaiofgnbgboaa.FGovernorSays
open Go.RowKit Go.Proofs.YtpmaiofgnbgboaaW.PrintWords Go.Proofs.YtpmaiofgnbgboaaW.PrintMore Go.Proofs.Ytpmaiofgnbgboaa.Evs Go.Proofs.Ytpmaiofgnbgboaa.PGovernorSays 
set_option linter.unusedVariables false
set_option linter.unusedSimpArgs false
theorem in_eq (a b c : Int) : gridhallref4_In.f a b c = some (decide (b ≤ a ∧ a ≤ c)) := by
  unfold gridhallref4_In.f
  by_cases h : a ≥ b
  · rw [if_pos h]
    congr 1
    exact decide_eq_decide.2 (by omega)
  · rw [if_neg h, decide_eq_false (by omega)]
/-- A generator's setup: Set, Least, Most, Droop, Band, Ramp. -/
def okG (a b c d e f : Int) : Prop := (0 ≤ c ∧ c ≤ 100000) ∧ (0 ≤ b ∧ b ≤ c) ∧ (b ≤ a ∧ a ≤ c) ∧ (1 ≤ d ∧ d ≤ 10000) ∧ (0 ≤ e ∧ e ≤ 10000) ∧ (0 ≤ f ∧ f ≤ 100000)
instance (a b c d e f : Int) : Decidable (okG a b c d e f) := by unfold okG; exact inferInstance
def errG (a b c d e f : Int) : Int := if okG a b c d e f then 0 else 4
theorem Check_ev (a b c d e f : Int) : Evt (fun k => governor_Check.f k a b c d e f) (errG a b c d e f) := by
  have bad : ¬ okG a b c d e f → ∀ q, q = true → Evt (fun k => governor_Check.j0 k q a b c d e f) (errG a b c d e f) := by
    intro h q hq
    subst hq
    refine Evt.succ ?_
    simp only [governor_Check.j0]
    exact Evt.ite_pos (by simp) (Evt.of_eq (by unfold errG; rw [if_neg h]))
  have no : ¬ okG a b c d e f → 4 = errG a b c d e f := fun h => by unfold errG; rw [if_neg h]
  simp only [governor_Check.f]
  refine Evt.ite (fun h => bad (by unfold okG; omega) _ rfl) (fun h1 => Evt.ite (fun h => bad (by unfold okG; omega) _ rfl) (fun h2 => Evt.ite (fun h => bad (by unfold okG; omega) _ rfl) (fun h3 => Evt.ite (fun h => bad (by unfold okG; omega) _ rfl) (fun h4 => ?_))))
  by_cases h5 : a > c
  · exact bad (by unfold okG; omega) _ (decide_eq_true h5)
  · rw [decide_eq_false h5]
    refine Evt.succ ?_
    simp only [governor_Check.j0]
    refine Evt.ite_neg (by simp) (Evt.ite (fun h => Evt.of_eq (no (by unfold okG; omega))) (fun h6 => Evt.ite (fun h => Evt.of_eq (no (by unfold okG; omega))) (fun h7 => Evt.ite (fun h => Evt.of_eq (no (by unfold okG; omega))) (fun h8 => Evt.ite (fun h => Evt.of_eq (no (by unfold okG; omega))) (fun h9 => Evt.ite (fun h => Evt.of_eq (no (by unfold okG; omega))) (fun h10 => Evt.ite (fun h => Evt.of_eq (no (by unfold okG; omega))) (fun h11 => ?_)))))))
    exact Evt.of_eq (by unfold errG; rw [if_pos (by unfold okG; omega)])
theorem GE_eq (a b c d e f : Int) : gridhallref4_GovernorError.f a b c d e f = some (errG a b c d e f) := by
  simp only [gridhallref4_GovernorError.f, in_eq, Option.bind_some, decide_eq_true_eq]
  have ok : okG a b c d e f → errG a b c d e f = 0 := fun h => by unfold errG; exact if_pos h
  have no : ¬ okG a b c d e f → errG a b c d e f = 4 := fun h => by unfold errG; exact if_neg h
  by_cases h1 : 0 ≤ c ∧ c ≤ 100000
  · by_cases h2 : 0 ≤ b ∧ b ≤ c
    · by_cases h3 : b ≤ a ∧ a ≤ c
      · by_cases h4 : 1 ≤ d ∧ d ≤ 10000
        · by_cases h5 : 0 ≤ e ∧ e ≤ 10000
          · by_cases h6 : 0 ≤ f ∧ f ≤ 100000
            · rw [if_pos h1, if_pos h2, if_pos h3, if_pos h4, if_pos h5, if_pos h6, ok ⟨h1, h2, h3, h4, h5, h6⟩]
            · rw [if_pos h1, if_pos h2, if_pos h3, if_pos h4, if_pos h5, if_neg h6, no (fun h => h6 h.2.2.2.2.2)]
          · rw [if_pos h1, if_pos h2, if_pos h3, if_pos h4, if_neg h5, no (fun h => h5 h.2.2.2.2.1)]
        · rw [if_pos h1, if_pos h2, if_pos h3, if_neg h4, no (fun h => h4 h.2.2.2.1)]
      · rw [if_pos h1, if_pos h2, if_neg h3, no (fun h => h3 h.2.2.1)]
    · rw [if_pos h1, if_neg h2, no (fun h => h2 h.2.1)]
  · rw [if_neg h1, no (fun h => h1 h.1)]
/-- How far a deviation is outside the band. -/
def over (e x : Int) : Int := if x > e then x - e else if x < -e then x + e else 0
def clampG (p b c : Int) : Int := if p < b then (if b > c then c else b) else (if p > c then c else p)
/-- The power at a deviation. -/
def tgt (a b c d e x : Int) : Int := clampG (a - Int.tdiv (over e x) d) b c
theorem tdiv_bd {x d : Int} (h1 : -10000 ≤ x) (h2 : x ≤ 10000) (hd : 1 ≤ d) : -10000 ≤ Int.tdiv x d ∧ Int.tdiv x d ≤ 10000 := by
  rcases Int.le_total 0 x with h | h
  · rw [Int.tdiv_eq_ediv_of_nonneg h]
    have a1 := Int.ediv_nonneg h (by omega : 0 ≤ d)
    have a2 := Int.ediv_le_self (b := d) h
    omega
  · obtain ⟨y, rfl⟩ : ∃ y, x = -y := ⟨-x, by omega⟩
    rw [Int.neg_tdiv, Int.tdiv_eq_ediv_of_nonneg (by omega)]
    have a1 := Int.ediv_nonneg (by omega : 0 ≤ y) (by omega : 0 ≤ d)
    have a2 := Int.ediv_le_self (b := d) (by omega : 0 ≤ y)
    omega
theorem over_bd {e x : Int} (he : 0 ≤ e ∧ e ≤ 10000) (hx : -10000 ≤ x ∧ x ≤ 10000) : -10000 ≤ over e x ∧ over e x ≤ 10000 := by
  unfold over
  split
  · omega
  · split <;> omega
theorem clamp_mn (p b c : Int) : mn (mx p b) c = clampG p b c := by
  unfold clampG mn mx
  repeat' split
  all_goals omega
theorem target_eq (a b c d e f x : Int) (h : okG a b c d e f) (hx : -10000 ≤ x ∧ x ≤ 10000) : governor_target.f a b c d e f x = some (tgt a b c d e x) := by
  obtain ⟨h1, h2, h3, h4, h5, h6⟩ := h
  unfold governor_target.f tgt
  have hb := over_bd h5 hx
  have ht := tdiv_bd hb.1 hb.2 h4.1
  rw [wrap64_of (x := -e) (by omega) (by omega)]
  rcases Int.lt_or_le e x with c1 | c1
  · have e1 : over e x = x - e := by unfold over; rw [if_pos c1]
    rw [e1] at ht ⊢
    rw [if_pos c1, if_neg (by omega), wrap64_of (x := x - e) (by omega) (by omega), wrap64_of (x := (x - e).tdiv d) (by omega) (by omega), wrap64_of (by omega) (by omega), clamp_mn]
  · rcases Int.lt_or_le x (-e) with c2 | c2
    · have e1 : over e x = x + e := by unfold over; rw [if_neg (by omega), if_pos c2]
      rw [e1] at ht ⊢
      rw [if_neg (by omega), if_pos c2, if_neg (by omega), wrap64_of (x := x + e) (by omega) (by omega), wrap64_of (x := (x + e).tdiv d) (by omega) (by omega), wrap64_of (by omega) (by omega), clamp_mn]
    · have e1 : over e x = 0 := by unfold over; rw [if_neg (by omega), if_neg (by omega)]
      rw [e1, Int.zero_tdiv]
      rw [if_neg (by omega), if_neg (by omega), if_neg (by omega), Int.zero_ediv, wrap64_of (x := 0) (by omega) (by omega), wrap64_of (by omega) (by omega), clamp_mn]
def tgtR (a b c d e f x : Int) : Int × Int := if okG a b c d e f then (if -10000 ≤ x ∧ x ≤ 10000 then (tgt a b c d e x, 0) else (0, 4)) else (0, 4)
theorem freq_eq (x : Int) : governor_frequency.f x = some (decide (-10000 ≤ x ∧ x ≤ 10000)) := by
  unfold governor_frequency.f
  by_cases h : x ≥ -10000
  · rw [if_pos h]
    congr 1
    exact decide_eq_decide.2 (by omega)
  · rw [if_neg h, decide_eq_false (by omega)]
theorem Target_ev (a b c d e f x : Int) : Evt (fun k => governor_Target.f k a b c d e f x) (tgtR a b c d e f x) := by
  simp only [governor_Target.f, freq_eq, Option.bind_some]
  refine Evt.bind (Check_ev a b c d e f) ?_
  by_cases h : okG a b c d e f
  · have he : errG a b c d e f = 0 := by unfold errG; exact if_pos h
    rw [he]
    refine Evt.ite_pos rfl ?_
    by_cases hx : -10000 ≤ x ∧ x ≤ 10000
    · have e1 : tgtR a b c d e f x = (tgt a b c d e x, 0) := by unfold tgtR; rw [if_pos h, if_pos hx]
      rw [e1]
      exact Evt.ite_pos (decide_eq_true hx) (Evt.bindo (target_eq a b c d e f x h hx) (Evt.pure _))
    · have e1 : tgtR a b c d e f x = (0, 4) := by unfold tgtR; rw [if_pos h, if_neg hx]
      rw [e1]
      exact Evt.ite_neg (fun hh => hx (of_decide_eq_true hh)) (Evt.pure _)
  · have he : errG a b c d e f = 4 := by unfold errG; exact if_neg h
    have e1 : tgtR a b c d e f x = (0, 4) := by unfold tgtR; rw [if_neg h]
    rw [he, e1]
    exact Evt.ite_neg (by decide) (Evt.pure _)
def nxtR (a b c d e f y x : Int) : Int × Int := if okG a b c d e f ∧ -10000 ≤ x ∧ x ≤ 10000 then (if b ≤ y ∧ y ≤ c then (mn (mx (tgt a b c d e x) (y - f)) (y + f), 0) else (0, 11)) else (0, 4)
theorem Next_ev (a b c d e f y x : Int) : Evt (fun k => governor_Next.f k a b c d e f y x) (nxtR a b c d e f y x) := by
  simp only [governor_Next.f]
  refine Evt.bind (Target_ev a b c d e f x) ?_
  by_cases h : okG a b c d e f ∧ -10000 ≤ x ∧ x ≤ 10000
  · have e1 : tgtR a b c d e f x = (tgt a b c d e x, 0) := by unfold tgtR; rw [if_pos h.1, if_pos h.2]
    have e2 : nxtR a b c d e f y x = (if b ≤ y ∧ y ≤ c then (mn (mx (tgt a b c d e x) (y - f)) (y + f), 0) else (0, 11)) := by unfold nxtR; exact if_pos h
    rw [e1, e2]
    obtain ⟨⟨h1, h2, h3, h4, h5, h6⟩, hx⟩ := h
    refine Evt.ite_pos rfl (Evt.ite (fun c1 => ?_) (fun c1 => Evt.ite (fun c2 => ?_) (fun c2 => ?_)))
    · exact Evt.of_eq (if_neg (by omega)).symm
    · exact Evt.of_eq (if_neg (by omega)).symm
    · rw [wrap64_of (x := y - f) (by omega) (by omega), wrap64_of (x := y + f) (by omega) (by omega)]
      exact Evt.of_eq (if_pos (by omega)).symm
  · have e1 : tgtR a b c d e f x = (0, 4) := by
      unfold tgtR
      by_cases g : okG a b c d e f
      · rw [if_pos g, if_neg (fun hh => h ⟨g, hh⟩)]
      · rw [if_neg g]
    have e2 : nxtR a b c d e f y x = (0, 4) := by unfold nxtR; exact if_neg h
    rw [e1, e2]
    exact Evt.ite_neg (by decide) (Evt.pure _)
section
variable (a b c d e f : Int)
/-- The steps' loop: from s steps on, w whole. -/
theorem ref_l2 (h : okG a b c d e f) (o w sg : Int) (hsg : sg = 1 ∨ sg = -1) (ho : 0 ≤ o) (ho2 : o ≤ 10000) (hw : w = o / d) : ∀ n : Nat, (n : Int) ≤ w → Evt (fun k => gridhallref4_Target.l2 k o (n : Int) sg a b c d e f) (clampG (a - sg * w) b c) := by
  obtain ⟨h1, h2, h3, h4, h5, h6⟩ := h
  have hdm := Int.mul_ediv_add_emod o d
  have hm0 := Int.emod_nonneg o (show d ≠ 0 by omega)
  have hm1 := Int.emod_lt_of_pos o (show 0 < d by omega)
  have hw1 : w ≤ o := by rw [hw]; exact Int.ediv_le_self d ho
  have hw0 : 0 ≤ w := by rw [hw]; exact Int.ediv_nonneg ho (by omega)
  obtain ⟨W, rfl⟩ : ∃ W : Nat, w = (W : Int) := ⟨w.toNat, by omega⟩
  rw [← hw] at hdm
  have key : ∀ n : Nat, n ≤ W → Evt (fun k => gridhallref4_Target.l2 k o (n : Int) sg a b c d e f) (clampG (a - sg * (W : Int)) b c) := by
    refine down ?_ ?_
    · refine Evt.succ ?_
      simp only [gridhallref4_Target.l2]
      have e1 : ((W : Int) + 1) * d = d * (W : Int) + d := by rw [Int.add_mul, Int.one_mul, Int.mul_comm]
      rw [wrap64_of (x := (W : Int) + 1) (by omega) (by omega), e1, wrap64_of (x := d * (W : Int) + d) (by omega) (by omega)]
      refine Evt.ite_neg (by omega) ?_
      have e2 : -10000 ≤ sg * (W : Int) ∧ sg * (W : Int) ≤ 10000 := by
        rcases hsg with rfl | rfl <;> omega
      rw [wrap64_of (x := sg * (W : Int)) (by omega) (by omega), wrap64_of (x := a - sg * (W : Int)) (by omega) (by omega)]
      unfold clampG
      refine Evt.ite (fun c1 => ?_) (fun c1 => ?_)
      · rw [if_pos c1]
        refine Evt.ite (fun c2 => ?_) (fun c2 => ?_)
        · rw [if_pos c2]
          exact Evt.pure _
        · rw [if_neg c2]
          exact Evt.pure _
      · rw [if_neg c1]
        refine Evt.ite (fun c2 => ?_) (fun c2 => ?_)
        · rw [if_pos c2]
          exact Evt.pure _
        · rw [if_neg c2]
          exact Evt.pure _
    · intro n hn ih
      refine Evt.succ ?_
      simp only [gridhallref4_Target.l2]
      have e1 : ((n : Int) + 1) * d ≤ (W : Int) * d := Int.mul_le_mul_of_nonneg_right (by omega) (by omega)
      have e3 : (W : Int) * d = d * (W : Int) := Int.mul_comm _ _
      have e4 : 0 ≤ ((n : Int) + 1) * d := Int.mul_nonneg (by omega) (by omega)
      rw [wrap64_of (x := (n : Int) + 1) (by omega) (by omega), wrap64_of (x := ((n : Int) + 1) * d) (by omega) (by omega)]
      refine Evt.ite_pos (by omega) ?_
      exact ih
  intro n hn
  exact key n (by omega)
theorem ref_j3 (h : okG a b c d e f) (o : Int) (ho : -10000 ≤ o ∧ o ≤ 10000) : Evt (fun k => gridhallref4_Target.j3 k o a b c d e f) (clampG (a - Int.tdiv o d) b c) := by
  refine Evt.succ ?_
  simp only [gridhallref4_Target.j3]
  refine Evt.ite (fun c1 => ?_) (fun c1 => ?_)
  · rw [wrap64_of (x := -o) (by omega) (by omega)]
    refine Evt.succ ?_
    simp only [gridhallref4_Target.j4]
    obtain ⟨y, rfl⟩ : ∃ y, o = -y := ⟨-o, by omega⟩
    rw [Int.neg_neg, Int.neg_tdiv, Int.tdiv_eq_ediv_of_nonneg (by omega)]
    have := ref_l2 a b c d e f h y (y / d) (-1) (Or.inr rfl) (by omega) (by omega) rfl 0 (Int.ediv_nonneg (by omega) (by have := h.2.2.2.1; omega))
    rw [Int.neg_one_mul] at this
    exact this
  · refine Evt.succ ?_
    simp only [gridhallref4_Target.j4]
    rw [Int.tdiv_eq_ediv_of_nonneg (by omega)]
    have := ref_l2 a b c d e f h o (o / d) 1 (Or.inl rfl) (by omega) (by omega) rfl 0 (Int.ediv_nonneg (by omega) (by have := h.2.2.2.1; omega))
    rw [Int.one_mul] at this
    exact this
theorem ref_l1 (h : okG a b c d e f) (x : Int) (hx : -10000 ≤ x ∧ x ≤ 10000) : ∀ n : Nat, ∀ m : Nat, (x + (m : Int) ≤ e ∧ (m + n : Nat) = (if x < -e then -e - x else 0).toNat) → Evt (fun k => gridhallref4_Target.l1 k x (-(m : Int)) a b c d e f) (clampG (a - Int.tdiv (over e x) d) b c) := by
  intro n
  have hh := h
  obtain ⟨h1, h2, h3, h4, h5, h6⟩ := h
  induction n with
  | zero =>
    intro m hm
    have hov : -(m : Int) = over e x := by
      unfold over
      obtain ⟨g1, g2⟩ := hm
      by_cases c1 : x < -e
      · rw [if_pos c1] at g2
        rw [if_neg (by omega), if_pos c1]
        omega
      · rw [if_neg c1] at g2
        by_cases c2 : x > e
        · omega
        · rw [if_neg c2, if_neg c1]
          omega
    refine Evt.succ ?_
    simp only [gridhallref4_Target.l1]
    have ho := over_bd h5 hx
    rw [wrap64_of (x := x - -(m : Int)) (by omega) (by omega), wrap64_of (x := -e) (by omega) (by omega)]
    refine Evt.ite_pos (by omega) (Evt.ite_neg ?_ ?_)
    · obtain ⟨g1, g2⟩ := hm
      by_cases c1 : x < -e
      · rw [if_pos c1] at g2
        omega
      · rw [if_neg c1] at g2
        omega
    · rw [hov]
      exact ref_j3 a b c d e f hh _ ho
  | succ n ih =>
    intro m hm
    obtain ⟨g1, g2⟩ := hm
    have c1 : x < -e := by
      apply Decidable.byContradiction
      intro hc
      rw [if_neg hc] at g2
      simp at g2
    refine Evt.succ ?_
    simp only [gridhallref4_Target.l1]
    have g2' := g2
    rw [if_pos c1] at g2'
    rw [wrap64_of (x := x - -(m : Int)) (by omega) (by omega), wrap64_of (x := -e) (by omega) (by omega), wrap64_of (x := -(m : Int) - 1) (by omega) (by omega)]
    refine Evt.ite_pos (by omega) (Evt.ite_pos (by omega) ?_)
    have e1 : -(m : Int) - 1 = -((m + 1 : Nat) : Int) := by omega
    rw [e1]
    exact ih (m + 1) ⟨by omega, by omega⟩
theorem ref_l0 (h : okG a b c d e f) (x : Int) (hx : -10000 ≤ x ∧ x ≤ 10000) : ∀ n : Nat, ∀ m : Nat, (m + n : Nat) = (if x > e then x - e else 0).toNat → Evt (fun k => gridhallref4_Target.l0 k x (m : Int) a b c d e f) (clampG (a - Int.tdiv (over e x) d) b c) := by
  intro n
  have hh := h
  obtain ⟨h1, h2, h3, h4, h5, h6⟩ := h
  induction n with
  | zero =>
    intro m g2
    refine Evt.succ ?_
    simp only [gridhallref4_Target.l0]
    by_cases c1 : x > e
    · rw [if_pos c1] at g2
      rw [wrap64_of (x := x - (m : Int)) (by omega) (by omega)]
      refine Evt.ite_pos (by omega) (Evt.ite_neg (by omega) (Evt.succ ?_))
      simp only [gridhallref4_Target.j1]
      refine Evt.succ ?_
      simp only [gridhallref4_Target.l1]
      have hov : over e x = (m : Int) := by
        unfold over
        rw [if_pos c1]
        omega
      rw [hov]
      have := ref_j3 a b c d e f hh (m : Int) (by omega)
      exact Evt.ite_neg (by omega) this
    · rw [if_neg c1] at g2
      have e0 : m = 0 := by omega
      subst e0
      rw [wrap64_of (x := x - ((0 : Nat) : Int)) (by omega) (by omega)]
      refine Evt.ite_pos (by omega) (Evt.ite_neg (by omega) (Evt.succ ?_))
      simp only [gridhallref4_Target.j1]
      exact ref_l1 a b c d e f hh x hx _ 0 ⟨by omega, by rw [Nat.zero_add]⟩
  | succ n ih =>
    intro m g2
    have c1 : x > e := by
      apply Decidable.byContradiction
      intro hc
      rw [if_neg hc] at g2
      simp at g2
    have g2' := g2
    rw [if_pos c1] at g2'
    refine Evt.succ ?_
    simp only [gridhallref4_Target.l0]
    rw [wrap64_of (x := x - (m : Int)) (by omega) (by omega), wrap64_of (x := (m : Int) + 1) (by omega) (by omega)]
    refine Evt.ite_pos (by omega) (Evt.ite_pos (by omega) ?_)
    exact ih (m + 1) (by omega)
theorem ref_ev (h : okG a b c d e f) (x : Int) (hx : -10000 ≤ x ∧ x ≤ 10000) : Evt (fun k => gridhallref4_Target.f k a b c d e f x) (tgt a b c d e x) := by
  simp only [gridhallref4_Target.f]
  exact ref_l0 a b c d e f h x hx _ 0 (by rw [Nat.zero_add])
end
theorem near_eq (t y f : Int) (hf : 0 ≤ f) : mn (mx t (y - f)) (y + f) = if t > y + f then (if y + f < y - f then y - f else y + f) else (if t < y - f then y - f else t) := by
  unfold mn mx
  repeat' split
  all_goals omega
theorem pure : Go.Proofs.Ytpmaiofgnbgboaa.RGovernorSays.Pure := by
  intro a b c d e f y x _ _ _ _ _ _ hy hx
  have hy := i64_wf hy
  have hx := i64_wf hx
  refine Evt.ex ?_
  simp only [gridhalllaw4_GovernorSays.f]
  refine Evt.bind (Target_ev _ _ _ _ _ _ _) ?_
  have e0 : tgtR 50 0 100 10 20 0 (-65) = (54, 0) := by decide +kernel
  rw [e0]
  refine Evt.ite_pos rfl (Evt.succ ?_)
  simp only [gridhalllaw4_GovernorSays.j0]
  refine Evt.ite_neg (by simp) (Evt.bind (Target_ev _ _ _ _ _ _ _) (Evt.bind (Next_ev _ _ _ _ _ _ _ _) (Evt.bindo (GE_eq _ _ _ _ _ _) (Evt.bind (Check_ev _ _ _ _ _ _) (Evt.ite_pos rfl ?_)))))
  have bad : tgtR a b c d e f x = (0, 4) → nxtR a b c d e f y x = (0, 4) → Evt (fun k => gridhalllaw4_GovernorSays.j2 k y x (tgtR a b c d e f x).1 (tgtR a b c d e f x).2 (nxtR a b c d e f y x).1 (nxtR a b c d e f y x).2 4 a b c d e f) true := by
    intro g1 g2
    rw [g1, g2]
    refine Evt.succ ?_
    simp only [gridhalllaw4_GovernorSays.j2]
    exact Evt.ite_neg (by decide) (Evt.ite_pos trivial (Evt.ite_pos trivial (Evt.ite_pos trivial (Evt.of_eq rfl))))
  by_cases h : okG a b c d e f
  · have he : errG a b c d e f = 0 := by unfold errG; rw [if_pos h]
    rw [he]
    refine Evt.ite_pos rfl ?_
    simp only [in_eq, Option.bind_some]
    refine Evt.succ ?_
    simp only [gridhalllaw4_GovernorSays.j1]
    by_cases hr : -10000 ≤ x ∧ x ≤ 10000
    · refine Evt.ite_neg (by rw [decide_eq_true hr]; simp) (Evt.succ ?_)
      have g1 : tgtR a b c d e f x = (tgt a b c d e x, 0) := by
        unfold tgtR
        rw [if_pos h, if_pos hr]
      rw [g1]
      simp only [gridhalllaw4_GovernorSays.j2]
      refine Evt.ite_pos trivial (Evt.bind (ref_ev a b c d e f h x hr) (Evt.ite_pos trivial (Evt.succ ?_)))
      simp only [gridhalllaw4_GovernorSays.j3, in_eq, Option.bind_some]
      refine Evt.ite_neg (by simp) ?_
      have g2 : nxtR a b c d e f y x = (if b ≤ y ∧ y ≤ c then (mn (mx (tgt a b c d e x) (y - f)) (y + f), 0) else (0, 11)) := by
        unfold nxtR
        rw [if_pos ⟨h, hr⟩]
      by_cases hn : b ≤ y ∧ y ≤ c
      · rw [if_pos hn] at g2
        rw [g2]
        obtain ⟨h1, h2, h3, h4, h5, h6⟩ := h
        rw [wrap64_of (x := y + f) (by omega) (by omega), wrap64_of (x := y - f) (by omega) (by omega), near_eq _ _ _ h6.1]
        refine Evt.ite_pos (decide_eq_true hn) (Evt.ite (fun c1 => ?_) (fun c1 => ?_))
        · rw [if_pos c1]
          refine Evt.ite (fun c2 => ?_) (fun c2 => ?_)
          · rw [if_pos c2]
            exact Evt.ite_pos rfl (Evt.of_eq (by simp))
          · rw [if_neg c2]
            exact Evt.ite_pos rfl (Evt.of_eq (by simp))
        · rw [if_neg c1]
          refine Evt.ite (fun c2 => ?_) (fun c2 => ?_)
          · rw [if_pos c2]
            exact Evt.ite_pos rfl (Evt.of_eq (by simp))
          · rw [if_neg c2]
            exact Evt.ite_pos rfl (Evt.of_eq (by simp))
      · rw [if_neg hn] at g2
        rw [g2]
        exact Evt.ite_neg (fun hh => hn (of_decide_eq_true hh)) (Evt.ite_pos rfl (Evt.of_eq rfl))
    · refine Evt.ite_pos (by rw [decide_eq_false hr]; rfl) (bad ?_ ?_)
      · unfold tgtR
        rw [if_pos h, if_neg hr]
      · unfold nxtR
        rw [if_neg (fun hh => hr hh.2)]
  · have he : errG a b c d e f = 4 := by unfold errG; rw [if_neg h]
    rw [he]
    refine Evt.ite_neg (by decide) (Evt.succ ?_)
    simp only [gridhalllaw4_GovernorSays.j1]
    refine Evt.ite_neg (by simp) (bad ?_ ?_)
    · unfold tgtR
      rw [if_neg h]
    · unfold nxtR
      rw [if_neg (fun hh => h hh.1)]
theorem GovernorSays_holds : Rows.GovernorSaysSaid := Go.Proofs.Ytpmaiofgnbgboaa.RGovernorSays.said pure
#print axioms GovernorSays_holds
end Go.Proofs.Ytpmaiofgnbgboaa.FGovernorSays
