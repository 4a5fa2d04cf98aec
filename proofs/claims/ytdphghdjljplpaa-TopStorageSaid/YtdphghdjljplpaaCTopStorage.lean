import Derived.Test.YtdphghdjljplpaaEvs
import Derived.Test.YtdphghdjljplpaaHTopStoragey16
namespace Go.Proofs.Ytdphghdjljplpaa.CTopStorage
open Go.RowKit Go.Proofs.YtdphghdjljplpaaW.PrintWords Go.Proofs.YtdphghdjljplpaaW.PrintMore Go.Proofs.Ytdphghdjljplpaa.Evs Go.Proofs.Ytdphghdjljplpaa.PTopStorage
set_option linter.unusedVariables false
set_option linter.unusedSectionVars false
set_option linter.unusedSimpArgs false
abbrev Pc := S158
abbrev zPc : Pc := z158
def ln (l : List Pc) (n : Nat) : Int := (l.getD n zPc).f0
def sl (l : List Pc) (n : Nat) : Int := (l.getD n zPc).f1
theorem rdc0 (l : List Pc) (n : Nat) : (rd_T158 l (n : Int)).f0 = ln l n := Eq.trans rfl rfl
theorem rdc1 (l : List Pc) (n : Nat) : (rd_T158 l (n : Int)).f1 = sl l n := Eq.trans rfl rfl
theorem mulb {a b A B : Int} (h1 : 0 ≤ a) (h2 : a ≤ A) (h3 : -B ≤ b) (h4 : b ≤ B) : -(A * B) ≤ a * b ∧ a * b ≤ A * B := by
  have hB : 0 ≤ B:=by omega
  have e1 : a * B ≤ A * B:=Int.mul_le_mul_of_nonneg_right h2 hB
  have e2 : a * b ≤ a * B:=Int.mul_le_mul_of_nonneg_left h4 h1
  have e3 : a * (-B) ≤ a * b:=Int.mul_le_mul_of_nonneg_left h3 h1
  rw [Int.mul_neg] at e3
  omega
def xs (a : Int) (l : List Pc) : Nat → Int
 |0 => a
 |n + 1 => xs a l n + ln l n
def ys (v : Int) (l : List Pc) : Nat → Int
 |0 => v
 |n + 1 => ys v l n + ln l n * sl l n
def okP (l : List Pc) (n : Nat) : Prop := 1 ≤ ln l n ∧ ln l n ≤ 2000000 ∧ -10000000 ≤ sl l n ∧ sl l n ≤ 10000000
instance (l : List Pc) (n : Nat) : Decidable (okP l n) := by unfold okP; exact inferInstance
def okY (y : Int) : Prop := -1000000000000000 ≤ y ∧ y ≤ 1000000000000000
instance (y : Int) : Decidable (okY y) := by unfold okY; exact inferInstance
def stepC (a v : Int) (l : List Pc) : Nat → Nat → Int
 |0, _ => 0
 |d + 1, n => if okP l n then (if 0 < n ∧ sl l n ≤ sl l (n - 1) then 3 else if xs a l (n + 1) ≤ 1000000 ∧ okY (ys v l (n + 1)) then stepC a v l d (n + 1) else 4) else 4
def cvErr (a v : Int) (l : List Pc) : Int := if l.length > 64 then 2 else if (-1000000 ≤ a ∧ a ≤ 1000000) ∧ okY v then stepC a v l l.length 0 else 4
def PreC (a v : Int) (l : List Pc) (n : Nat) : Prop := (-1000000 ≤ xs a l n ∧ xs a l n ≤ 1000000) ∧ okY (ys v l n)
structure Cv (a v : Int) (l : List Pc) : Prop where
  len : l.length ≤ 64
  pre : ∀ n, n ≤ l.length → PreC a v l n
  rng : ∀ n, n < l.length → okP l n
  srt : ∀ n, 0 < n → n < l.length → sl l (n - 1) < sl l n
theorem stepC_ok (a v : Int) (l : List Pc) : ∀ d n, n + d = l.length → PreC a v l n → stepC a v l d n = 0 →
    (∀ m, n ≤ m → m ≤ l.length → PreC a v l m) ∧ (∀ m, n ≤ m → m < l.length → okP l m) ∧ (∀ m, n ≤ m → 0 < m → m < l.length → sl l (m - 1) < sl l m):=by
  intro d
  induction d with
 |zero =>
    intro n hn hp _
    refine ⟨fun m h1 h2 => ?_, fun m h1 h2 => by omega, fun m h1 _ h2 => by omega⟩
    have : m = n:=by omega
    subst this
    exact hp
 |succ d ih =>
    intro n hn hp h
    simp only [stepC] at h
    by_cases c1 : okP l n
    · rw [if_pos c1] at h
      by_cases c2 : 0 < n ∧ sl l n ≤ sl l (n - 1)
      · rw [if_pos c2] at h
        omega
      · rw [if_neg c2] at h
        by_cases c3 : xs a l (n + 1) ≤ 1000000 ∧ okY (ys v l (n + 1))
        · rw [if_pos c3] at h
          have hp' : PreC a v l (n + 1):=by
            refine ⟨⟨?_, c3.1⟩, c3.2⟩
            have h1:=hp.1
            have h2:=c1.1
            simp only [xs]
            omega
          obtain ⟨h1, h2, h3⟩:=ih (n + 1) (by omega) hp' h
          refine ⟨fun m a1 a2 => ?_, fun m a1 a2 => ?_, fun m a1 a2 a3 => ?_⟩
          · by_cases e : m = n
            · subst e
              exact hp
            · exact h1 m (by omega) a2
          · by_cases e : m = n
            · subst e
              exact c1
            · exact h2 m (by omega) a2
          · by_cases e : m = n
            · subst e
              omega
            · exact h3 m (by omega) a2 a3
        · rw [if_neg c3] at h
          omega
    · rw [if_neg c1] at h
      omega
theorem cvErr_ok {a v : Int} {l : List Pc} (h : cvErr a v l = 0) : Cv a v l := by
  unfold cvErr at h
  by_cases c1 : l.length > 64
  · rw [if_pos c1] at h
    omega
  · rw [if_neg c1] at h
    by_cases c2 : (-1000000 ≤ a ∧ a ≤ 1000000) ∧ okY v
    · rw [if_pos c2] at h
      obtain ⟨h1, h2, h3⟩:=stepC_ok a v l l.length 0 (by omega) c2 h
      exact ⟨by omega, fun n hn => h1 n (by omega) hn, fun n hn => h2 n (by omega) hn, fun n h0 hn => h3 n (by omega) h0 hn⟩
    · rw [if_neg c2] at h
      omega
theorem pred_castC {n : Nat} (h : 0 < n) (hb : n ≤ 9223372036854775807) : wrap64 ((n : Int) - 1) = ((n - 1 : Nat) : Int) := by
  unfold wrap64
  omega
theorem prod_bd {l : List Pc} {n : Nat} (h : okP l n) : -20000000000000 ≤ ln l n * sl l n ∧ ln l n * sl l n ≤ 20000000000000 := by
  obtain ⟨h1, h2, h3, h4⟩:=h
  have:=mulb (a:=ln l n) (b:=sl l n) (A:=2000000) (B:=10000000) (by omega) h2 h3 h4
  omega
theorem CCheck_l0 (a v : Int) (l : List Pc) (hl : l.length ≤ 64) : ∀ n, n ≤ l.length → PreC a v l n → Evt (fun k => convexpl_Check.l0 k (xs a l n) (ys v l n) l (l.length : Int) (n : Int) a v l) (stepC a v l (l.length - n) n) := by
  refine down ?_ ?_
  · intro _
    refine Evt.succ ?_
    simp only [convexpl_Check.l0, Nat.sub_self, stepC]
    exact Evt.ite_neg (by omega) (Evt.pure _)
  · intro n hn ih hp
    obtain ⟨d, hd⟩ : ∃ d, l.length - n = d + 1:=⟨l.length - n - 1, by omega⟩
    rw [show l.length - (n + 1) = d by omega] at ih
    rw [hd]
    obtain ⟨hp1, hp2, hp3⟩:=hp
    have no : ¬ okP l n → 4 = stepC a v l (d + 1) n:=fun h => by simp only [stepC]; exact (if_neg h).symm
    have j3 : okP l n → ∀ b, b = decide (0 < n ∧ sl l n ≤ sl l (n - 1)) → Evt (fun k => convexpl_Check.j3 k (xs a l n) (ys v l n) l (l.length : Int) (n : Int) b a v l (ln l n) (sl l n)) (stepC a v l (d + 1) n):=by
      intro hc b hb
      have hpb:=prod_bd hc
      have e0 : stepC a v l (d + 1) n = (if 0 < n ∧ sl l n ≤ sl l (n - 1) then 3 else if xs a l (n + 1) ≤ 1000000 ∧ okY (ys v l (n + 1)) then stepC a v l d (n + 1) else 4):=by simp only [stepC]; exact if_pos hc
      rw [e0]
      obtain ⟨hc1, hc2, hc3, hc4⟩:=hc
      refine Evt.succ ?_
      simp only [convexpl_Check.j3]
      have ex : xs a l n + ln l n = xs a l (n + 1):=rfl
      have ey : ys v l n + ln l n * sl l n = ys v l (n + 1):=rfl
      have hx : -1000000 ≤ xs a l (n + 1) ∧ xs a l (n + 1) ≤ 3000000:=by rw [← ex]; omega
      have hy : -2000000000000000 ≤ ys v l (n + 1) ∧ ys v l (n + 1) ≤ 2000000000000000:=by rw [← ey]; omega
      rw [ex, wrap64_of (x:=ln l n * sl l n) (by omega) (by omega), ey, wrap64_of (x:=xs a l (n + 1)) (by omega) (by omega), wrap64_of (x:=ys v l (n + 1)) (by omega) (by omega), wrap64_nat (by omega)]
      subst hb
      refine Evt.ite (fun c => Evt.of_eq (if_pos (of_decide_eq_true c)).symm) (fun c => ?_)
      rw [if_neg (fun h => c (decide_eq_true h))]
      refine Evt.ite (fun c2 => Evt.of_eq (if_neg (fun h => by omega)).symm) (fun c2 => Evt.ite (fun c3 => Evt.of_eq (if_neg (fun h => by have:=h.2.1; omega)).symm) (fun c3 => Evt.ite (fun c4 => Evt.of_eq (if_neg (fun h => by have:=h.2.2; omega)).symm) (fun c4 => ?_)))
      rw [if_pos ⟨by omega, by unfold okY; omega⟩]
      exact ih ⟨by omega, by unfold okY; omega⟩
    have j2t : ¬ okP l n → ∀ b, b = true → Evt (fun k => convexpl_Check.j2 k (xs a l n) (ys v l n) (n : Int) l (l.length : Int) (n : Int) b a v l (ln l n) (sl l n)) (stepC a v l (d + 1) n):=by
      intro hc b hb
      subst hb
      refine Evt.succ ?_
      simp only [convexpl_Check.j2]
      exact Evt.ite_pos (by simp) (Evt.of_eq (no hc))
    have j2f : okP l n → ∀ b, b = false → Evt (fun k => convexpl_Check.j2 k (xs a l n) (ys v l n) (n : Int) l (l.length : Int) (n : Int) b a v l (ln l n) (sl l n)) (stepC a v l (d + 1) n):=by
      intro hc b hb
      subst hb
      refine Evt.succ ?_
      simp only [convexpl_Check.j2]
      refine Evt.ite_neg (by simp) (Evt.ite (fun h => ?_) (fun h => ?_))
      · rw [pred_castC (by omega) (by omega)]
        refine Evt.ite_pos (by omega) (Evt.ite_pos (by omega) ?_)
        simp only [rdc1]
        refine j3 hc _ (decide_eq_decide.2 ?_)
        omega
      · exact j3 hc _ (decide_eq_false (by omega)).symm
    refine Evt.succ ?_
    simp only [convexpl_Check.l0]
    refine Evt.ite_pos (by omega) (Evt.ite_pos (by omega) (Evt.ite_pos (by omega) ?_))
    simp only [rdc0, rdc1]
    refine Evt.ite (fun h => j2t (by unfold okP; omega) _ rfl) (fun h1 => Evt.ite (fun h => j2t (by unfold okP; omega) _ rfl) (fun h2 => Evt.ite (fun h => j2t (by unfold okP; omega) _ rfl) (fun h3 => ?_)))
    by_cases h4 : sl l n > 10000000
    · exact j2t (by unfold okP; omega) _ (decide_eq_true h4)
    · exact j2f (by unfold okP; omega) _ (decide_eq_false h4)
theorem CCheck_ev (a v : Int) (l : List Pc) : Evt (fun k => convexpl_Check.f k a v l) (cvErr a v l) := by
  simp only [convexpl_Check.f]
  unfold cvErr
  by_cases h2 : l.length > 64
  · rw [if_pos h2]
    exact Evt.ite_pos (by omega) (Evt.pure _)
  · rw [if_neg h2]
    refine Evt.ite_neg (by omega) ?_
    have bad : ∀ b, b = true → Evt (fun k => convexpl_Check.j0 k b a v l) 4:=by
      intro b hb
      subst hb
      refine Evt.succ ?_
      simp only [convexpl_Check.j0]
      exact Evt.ite_pos (by simp) (Evt.pure _)
    by_cases h : (-1000000 ≤ a ∧ a ≤ 1000000) ∧ okY v
    · rw [if_pos h]
      have h':=h
      obtain ⟨h1, h3, h4⟩:=h
      rw [decide_eq_false (by omega)]
      refine Evt.ite_neg (by omega) (Evt.ite_neg (by omega) (Evt.ite_neg (by omega) (Evt.succ ?_)))
      simp only [convexpl_Check.j0]
      exact Evt.ite_neg (by simp) (CCheck_l0 a v l (by omega) 0 (by omega) h')
    · rw [if_neg h]
      refine Evt.ite (fun _ => bad _ rfl) (fun c1 => Evt.ite (fun _ => bad _ rfl) (fun c2 => Evt.ite (fun _ => bad _ rfl) (fun c3 => bad _ (decide_eq_true ?_))))
      apply Decidable.byContradiction
      intro c4
      exact h ⟨by omega, by unfold okY; omega⟩
theorem xs_mono {a v : Int} {l : List Pc} (h : Cv a v l) {i j : Nat} (hij : i ≤ j) (hj : j ≤ l.length) : xs a l i ≤ xs a l j := by
  induction j with
 |zero =>
    have : i = 0:=by omega
    rw [this]
    exact Int.le_refl _
 |succ j ih =>
    by_cases e : i = j + 1
    · rw [e]
      exact Int.le_refl _
    · have h1:=ih (by omega) (by omega)
      have h2:=(h.rng j (by omega)).1
      simp only [xs]
      omega
theorem sl_mono {a v : Int} {l : List Pc} (h : Cv a v l) {i j : Nat} (hij : i < j) (hj : j < l.length) : sl l i < sl l j := by
  induction j with
 |zero => omega
 |succ j ih =>
    have h2:=h.srt (j + 1) (by omega) hj
    simp only [Nat.add_sub_cancel] at h2
    by_cases e : i = j
    · rw [e]
      exact h2
    · have h1:=ih (by omega) (by omega)
      omega
def cl (a : Int) (l : List Pc) (x : Int) (n : Nat) : Int := mn (xs a l (n + 1)) x - mn (xs a l n) x
def fv (a v : Int) (l : List Pc) (x : Int) : Nat → Int
 |0 => v
 |n + 1 => fv a v l x n + cl a l x n * sl l n
theorem cl_bd {a : Int} {l : List Pc} (x : Int) {n : Nat} (h : 0 ≤ ln l n) : 0 ≤ cl a l x n ∧ cl a l x n ≤ ln l n := by
  have e : xs a l (n + 1) = xs a l n + ln l n:=rfl
  unfold cl mn
  split <;> split <;> omega
theorem clp_bd {a v : Int} {l : List Pc} (h : Cv a v l) (x : Int) {n : Nat} (hn : n < l.length) : -20000000000000 ≤ cl a l x n * sl l n ∧ cl a l x n * sl l n ≤ 20000000000000 := by
  obtain ⟨h1, h2, h3, h4⟩:=h.rng n hn
  have hc:=cl_bd (a:=a) (l:=l) x (n:=n) (by omega)
  have:=mulb (a:=cl a l x n) (b:=sl l n) (A:=2000000) (B:=10000000) hc.1 (by omega) h3 h4
  omega
theorem fv_bd {a v : Int} {l : List Pc} (h : Cv a v l) (x : Int) : ∀ n, n ≤ l.length → -1000000000000000 - 20000000000000 * (n : Int) ≤ fv a v l x n ∧ fv a v l x n ≤ 1000000000000000 + 20000000000000 * (n : Int) := by
  intro n
  induction n with
 |zero =>
    intro _
    have:=(h.pre 0 (by omega)).2
    have h1:=this.1
    have h2:=this.2
    simp only [ys] at h1 h2
    simp only [fv]
    omega
 |succ n ih =>
    intro hn
    have h0:=ih (by omega)
    have h1:=clp_bd h x (n:=n) (by omega)
    simp only [fv]
    omega
theorem fv_succ {a v : Int} {l : List Pc} (h : Cv a v l) (x : Int) (m : Nat) (hm : m < l.length) (h1 : xs a l m ≤ x) (h2 : x < xs a l (m + 1)) : ∀ n, n ≤ l.length → fv a v l (x + 1) n = fv a v l x n + (if m < n then sl l m else 0) := by
  intro n
  induction n with
 |zero => intro _; simp [fv]
 |succ n ih =>
    intro hn
    simp only [fv]
    rw [ih (by omega)]
    have hr:=(h.rng n (by omega)).1
    have ex : xs a l (n + 1) = xs a l n + ln l n:=rfl
    rcases Nat.lt_trichotomy m n with c|c|c
    · have:=xs_mono h (i:=m + 1) (j:=n) (by omega) (by omega)
      have e : cl a l (x + 1) n = cl a l x n:=by
        unfold cl mn
        repeat' split
        all_goals omega
      rw [e, if_pos (by omega), if_pos (by omega)]
      omega
    · subst c
      have e : cl a l (x + 1) m = cl a l x m + 1:=by
        unfold cl mn
        repeat' split
        all_goals omega
      rw [e, if_neg (by omega), if_pos (by omega), Int.add_mul, Int.one_mul]
      omega
    · have:=xs_mono h (i:=n + 1) (j:=m) (by omega) (by omega)
      have e : cl a l (x + 1) n = cl a l x n:=by
        unfold cl mn
        repeat' split
        all_goals omega
      rw [e, if_neg (by omega), if_neg (by omega)]
      omega
theorem fv_xs {a v : Int} {l : List Pc} (h : Cv a v l) (m : Nat) (hm : m ≤ l.length) : ∀ n, n ≤ l.length → fv a v l (xs a l m) n = ys v l (min n m) := by
  intro n
  induction n with
 |zero => intro _; simp [fv, ys]
 |succ n ih =>
    intro hn
    simp only [fv]
    rw [ih (by omega)]
    have hr:=(h.rng n (by omega)).1
    have ex : xs a l (n + 1) = xs a l n + ln l n:=rfl
    by_cases c : n < m
    · have:=xs_mono h (i:=n + 1) (j:=m) (by omega) hm
      have e : cl a l (xs a l m) n = ln l n:=by
        unfold cl mn
        repeat' split
        all_goals omega
      rw [e, Nat.min_eq_left (by omega), Nat.min_eq_left (by omega)]
      rfl
    · have:=xs_mono h (i:=m) (j:=n) (by omega) (by omega)
      have e : cl a l (xs a l m) n = 0:=by
        unfold cl mn
        repeat' split
        all_goals omega
      rw [e, Nat.min_eq_right (by omega), Nat.min_eq_right (by omega)]
      omega
def F (a v : Int) (l : List Pc) (i : Nat) : Int := fv a v l (a + i) l.length
theorem F_zero {a v : Int} {l : List Pc} (h : Cv a v l) : F a v l 0 = v := by
  have:=fv_xs h 0 (by omega) l.length (Nat.le_refl _)
  rw [Nat.min_eq_right (by omega)] at this
  simp only [xs, ys] at this
  unfold F
  rw [show a + ((0 : Nat) : Int) = a by omega]
  exact this
theorem F_succ {a v : Int} {l : List Pc} (h : Cv a v l) (i m : Nat) (hm : m < l.length) (h1 : xs a l m ≤ a + i) (h2 : a + i < xs a l (m + 1)) : F a v l (i + 1) = F a v l i + sl l m := by
  have:=fv_succ h (a + i) m hm h1 h2 l.length (Nat.le_refl _)
  rw [if_pos hm] at this
  unfold F
  rw [← this]
  congr 1
  omega
theorem high_l0 {a v : Int} {l : List Pc} (h : Cv a v l) : ∀ n, n ≤ l.length → Evt (fun k => convexpl_high.l0 k (xs a l n) l (l.length : Int) (n : Int)) (xs a l l.length) := by
  have hl:=h.len
  refine down ?_ ?_
  · refine Evt.succ ?_
    simp only [convexpl_high.l0]
    exact Evt.ite_neg (by omega) (Evt.pure _)
  · intro n hn ih
    refine Evt.succ ?_
    simp only [convexpl_high.l0]
    refine Evt.ite_pos (by omega) (Evt.ite_pos (by omega) (Evt.ite_pos (by omega) ?_))
    simp only [rdc0]
    have hb:=(h.pre (n + 1) (by omega)).1
    have e : xs a l n + ln l n = xs a l (n + 1):=rfl
    rw [e, wrap64_of (x:=xs a l (n + 1)) (by omega) (by omega), wrap64_nat (by omega)]
    exact ih
theorem high_ev {a v : Int} {l : List Pc} (h : Cv a v l) : Evt (fun k => convexpl_high.f k a v l) (xs a l l.length) := by
  simp only [convexpl_high.f]
  exact high_l0 h 0 (by omega)
theorem value_l0 {a v : Int} {l : List Pc} (h : Cv a v l) (x : Int) (hx : a ≤ x) (hx2 : x ≤ 1000000) : ∀ n, n ≤ l.length → Evt (fun k => convexpl_value.l0 k x (fv a v l x n) (mn (xs a l n) x) l (l.length : Int) (n : Int)) (fv a v l x l.length) := by
  have hl:=h.len
  have ha:=(h.pre 0 (by omega)).1
  simp only [xs] at ha
  refine down ?_ ?_
  · refine Evt.succ ?_
    simp only [convexpl_value.l0]
    exact Evt.ite_neg (by omega) (Evt.pure _)
  · intro n hn ih
    refine Evt.succ ?_
    simp only [convexpl_value.l0]
    refine Evt.ite_pos (by omega) (Evt.ite_pos (by omega) (Evt.ite_pos (by omega) ?_))
    simp only [rdc0, rdc1]
    have hr:=h.rng n hn
    obtain ⟨hr1, hr2, hr3, hr4⟩:=hr
    have hb:=(h.pre n (by omega)).1
    have ex : xs a l (n + 1) = xs a l n + ln l n:=rfl
    have hm : -1000000 ≤ mn (xs a l n) x ∧ mn (xs a l n) x ≤ x:=by
      unfold mn
      split <;> omega
    have e1 : mn (ln l n) (x - mn (xs a l n) x) = cl a l x n:=by
      unfold cl mn
      repeat' split
      all_goals omega
    have e2 : mn (xs a l n) x + cl a l x n = mn (xs a l (n + 1)) x:=by unfold cl; omega
    have hm2 : -1000000 ≤ mn (xs a l (n + 1)) x ∧ mn (xs a l (n + 1)) x ≤ x:=by
      unfold mn
      split <;> omega
    have hp:=clp_bd h x hn
    have hf:=fv_bd h x (n + 1) (by omega)
    have e3 : fv a v l x n + cl a l x n * sl l n = fv a v l x (n + 1):=rfl
    rw [wrap64_of (x:=x - mn (xs a l n) x) (by omega) (by omega), e1, e2, wrap64_of (x:=cl a l x n * sl l n) (by omega) (by omega), e3, wrap64_of (x:=fv a v l x (n + 1)) (by omega) (by omega), wrap64_of (x:=mn (xs a l (n + 1)) x) (by omega) (by omega), wrap64_nat (by omega)]
    exact ih
theorem piece_of {a v : Int} {l : List Pc} (h : Cv a v l) (x : Int) (h0 : a ≤ x) : ∀ n, n ≤ l.length → x < xs a l n → ∃ m, m < n ∧ xs a l m ≤ x ∧ x < xs a l (m + 1) := by
  intro n
  induction n with
 |zero => intro _ hx; simp only [xs] at hx; omega
 |succ n ih =>
    intro hn hx
    by_cases c : x < xs a l n
    · obtain ⟨m, h1, h2, h3⟩:=ih (by omega) c
      exact ⟨m, by omega, h2, h3⟩
    · exact ⟨n, by omega, by omega, hx⟩
theorem Cv_err {a v : Int} {l : List Pc} (h : Cv a v l) : cvErr a v l = 0 := by
  have step : ∀ d n, n + d = l.length → stepC a v l d n = 0:=by
    intro d
    induction d with
   |zero => intro n _; rfl
   |succ d ih =>
      intro n hn
      simp only [stepC]
      rw [if_pos (h.rng n (by omega)), if_neg (fun c => by have:=h.srt n c.1 (by omega); omega), if_pos ⟨(h.pre (n + 1) (by omega)).1.2, (h.pre (n + 1) (by omega)).2⟩]
      exact ih (n + 1) (by omega)
  unfold cvErr
  rw [if_neg (by have:=h.len; omega), if_pos (show (-1000000 ≤ a ∧ a ≤ 1000000) ∧ okY v from h.pre 0 (by omega))]
  exact step l.length 0 (by omega)
theorem fv_lin {a v : Int} {l : List Pc} (h : Cv a v l) {x : Int} {m : Nat} (hm : m < l.length) (h1 : xs a l m ≤ x) (h2 : x ≤ xs a l (m + 1)) : fv a v l x l.length = ys v l m + (x - xs a l m) * sl l m := by
  have all : ∀ n, n ≤ l.length → fv a v l x n = (if n ≤ m then ys v l n else ys v l m + (x - xs a l m) * sl l m):=by
    intro n
    induction n with
   |zero => intro _; simp [fv, ys]
   |succ n ih =>
      intro hn
      simp only [fv]
      rw [ih (by omega)]
      have hr:=(h.rng n (by omega)).1
      have ex : xs a l (n + 1) = xs a l n + ln l n:=rfl
      rcases Nat.lt_trichotomy n m with c|c|c
      · have:=xs_mono h (i:=n + 1) (j:=m) (by omega) (by omega)
        have e : cl a l x n = ln l n:=by
          unfold cl mn
          repeat' split
          all_goals omega
        rw [e, if_pos (by omega), if_pos (by omega)]
        rfl
      · subst c
        have e : cl a l x n = x - xs a l n:=by
          unfold cl mn
          repeat' split
          all_goals omega
        rw [e, if_pos (Nat.le_refl _), if_neg (by omega)]
      · have:=xs_mono h (i:=m + 1) (j:=n) (by omega) (by omega)
        have e : cl a l x n = 0:=by
          unfold cl mn
          repeat' split
          all_goals omega
        rw [e, if_neg (by omega), if_neg (by omega)]
        omega
  rw [all l.length (Nat.le_refl _), if_neg (by omega)]
theorem fv_okY {a v : Int} {l : List Pc} (h : Cv a v l) {x : Int} (h1 : a ≤ x) (h2 : x ≤ xs a l l.length) : okY (fv a v l x l.length) := by
  by_cases c : x < xs a l l.length
  · obtain ⟨m, hm, g1, g2⟩:=piece_of h x h1 l.length (Nat.le_refl _) c
    rw [fv_lin h hm g1 (by omega)]
    have b1:=(h.pre m (by omega)).2
    have b2:=(h.pre (m + 1) (by omega)).2
    have ex : xs a l (m + 1) = xs a l m + ln l m:=rfl
    have ey : ys v l (m + 1) = ys v l m + ln l m * sl l m:=rfl
    unfold okY at b1 b2 ⊢
    rw [ey] at b2
    by_cases d : 0 ≤ sl l m
    · have e1 : 0 ≤ (x - xs a l m) * sl l m:=Int.mul_nonneg (by omega) d
      have e2 : (x - xs a l m) * sl l m ≤ ln l m * sl l m:=Int.mul_le_mul_of_nonneg_right (by omega) d
      omega
    · have e1 : 0 ≤ (x - xs a l m) * (-(sl l m)):=Int.mul_nonneg (by omega) (by omega)
      have e2 : (x - xs a l m) * (-(sl l m)) ≤ ln l m * (-(sl l m)):=Int.mul_le_mul_of_nonneg_right (by omega) (by omega)
      rw [Int.mul_neg] at e1 e2
      rw [Int.mul_neg] at e2
      omega
  · have e:=fv_xs h l.length (Nat.le_refl _) l.length (Nat.le_refl _)
    rw [show x = xs a l l.length by omega, e, Nat.min_self]
    exact (h.pre l.length (Nat.le_refl _)).2
structure Sub (a v : Int) (l : List Pc) (a' : Int) (l' : List Pc) : Prop where
  low : a ≤ a'
  hi : a' ≤ xs a l l.length
  pc : ∀ m, m < l'.length → 1 ≤ ln l' m ∧ ∃ j, j < l.length ∧ xs a l j ≤ xs a' l' m ∧ xs a' l' (m + 1) ≤ xs a l (j + 1) ∧ sl l' m = sl l j
theorem Sub.at {a v : Int} {l : List Pc} {a' : Int} {l' : List Pc} (h : Cv a v l) (s : Sub a v l a' l') : ∀ n, n ≤ l'.length → a ≤ xs a' l' n ∧ xs a' l' n ≤ xs a l l.length ∧ ys (fv a v l a' l.length) l' n = fv a v l (xs a' l' n) l.length := by
  intro n
  induction n with
 |zero => intro _; exact ⟨s.low, s.hi, rfl⟩
 |succ n ih =>
    intro hn
    obtain ⟨i1, i2, i3⟩:=ih (by omega)
    obtain ⟨p1, j, p2, p3, p4, p5⟩:=s.pc n (by omega)
    have ex : xs a' l' (n + 1) = xs a' l' n + ln l' n:=rfl
    have:=xs_mono h (i:=j + 1) (j:=l.length) (by omega) (Nat.le_refl _)
    refine ⟨by omega, by omega, ?_⟩
    simp only [ys]
    rw [i3, fv_lin h p2 p3 (by omega), fv_lin h (x:=xs a' l' (n + 1)) p2 (by omega) p4, p5, ex, show xs a' l' n + ln l' n - xs a l j = (xs a' l' n - xs a l j) + ln l' n by omega, Int.add_mul]
    omega
theorem Sub.cv {a v : Int} {l : List Pc} {a' : Int} {l' : List Pc} (h : Cv a v l) (s : Sub a v l a' l') (hl : l'.length ≤ 64) (hs : ∀ n, 0 < n → n < l'.length → sl l' (n - 1) < sl l' n) : Cv a' (fv a v l a' l.length) l' := by
  have ha:=(h.pre 0 (by omega)).1
  have hb:=(h.pre l.length (Nat.le_refl _)).1
  have ha0 : xs a l 0 = a:=rfl
  refine ⟨hl, fun n hn => ?_, fun n hn => ?_, hs⟩
  · obtain ⟨i1, i2, i3⟩:=s.at h n hn
    refine ⟨by omega, ?_⟩
    rw [i3]
    exact fv_okY h i1 i2
  · obtain ⟨i1, i2, _⟩:=s.at h n (by omega)
    obtain ⟨i4, i5, _⟩:=s.at h (n + 1) (by omega)
    obtain ⟨p1, j, p2, p3, p4, p5⟩:=s.pc n hn
    have ex : xs a' l' (n + 1) = xs a' l' n + ln l' n:=rfl
    obtain ⟨r1, r2, r3, r4⟩:=h.rng j p2
    refine ⟨p1, by omega, by omega, by omega⟩
theorem Sub.val {a v : Int} {l : List Pc} {a' : Int} {l' : List Pc} (h : Cv a v l) (s : Sub a v l a' l') (h' : Cv a' (fv a v l a' l.length) l') {x : Int} (h1 : a' ≤ x) (h2 : x ≤ xs a' l' l'.length) : fv a' (fv a v l a' l.length) l' x l'.length = fv a v l x l.length := by
  by_cases c : x < xs a' l' l'.length
  · obtain ⟨m, hm, g1, g2⟩:=piece_of h' x h1 l'.length (Nat.le_refl _) c
    obtain ⟨p1, j, p2, p3, p4, p5⟩:=s.pc m hm
    obtain ⟨i1, i2, i3⟩:=s.at h m (by omega)
    rw [fv_lin h' hm g1 (by omega), i3, fv_lin h p2 p3 (by omega), fv_lin h (x:=x) p2 (by omega) (by omega), p5, show x - xs a l j = (xs a' l' m - xs a l j) + (x - xs a' l' m) by omega, Int.add_mul]
    omega
  · have e:=fv_xs h' l'.length (Nat.le_refl _) l'.length (Nat.le_refl _)
    rw [show x = xs a' l' l'.length by omega, e, Nat.min_self]
    exact (s.at h l'.length (Nat.le_refl _)).2.2
theorem turned_xs {a v : Int} {l l' : List Pc} (hl : l'.length = l.length) (hp : ∀ n, n < l.length → ln l' n = ln l (l.length - 1 - n) ∧ sl l' n = -(sl l (l.length - 1 - n))) : ∀ n, n ≤ l.length → xs (-(xs a l l.length)) l' n = -(xs a l (l.length - n)) ∧ ys (ys v l l.length) l' n = ys v l (l.length - n) := by
  intro n
  induction n with
 |zero => intro _; exact ⟨rfl, rfl⟩
 |succ n ih =>
    intro hn
    obtain ⟨i1, i2⟩:=ih (by omega)
    obtain ⟨p1, p2⟩:=hp n (by omega)
    obtain ⟨d, hd⟩ : ∃ d, l.length - n = d + 1:=⟨l.length - n - 1, by omega⟩
    rw [hd] at i1 i2
    rw [show l.length - 1 - n = d by omega] at p1 p2
    rw [show l.length - (n + 1) = d by omega]
    simp only [xs, ys] at i1 i2 ⊢
    rw [i1, i2, p1, p2, Int.mul_neg]
    constructor <;> omega
theorem turned_cv {a v : Int} {l l' : List Pc} (h : Cv a v l) (hl : l'.length = l.length) (hp : ∀ n, n < l.length → ln l' n = ln l (l.length - 1 - n) ∧ sl l' n = -(sl l (l.length - 1 - n))) : Cv (-(xs a l l.length)) (ys v l l.length) l' := by
  refine ⟨by rw [hl]; exact h.len, fun n hn => ?_, fun n hn => ?_, fun n h0 hn => ?_⟩
  · obtain ⟨i1, i2⟩:=turned_xs (a:=a) (v:=v) hl hp n (by omega)
    have:=(h.pre (l.length - n) (by omega)).1
    refine ⟨by omega, ?_⟩
    rw [i2]
    exact (h.pre (l.length - n) (by omega)).2
  · obtain ⟨p1, p2⟩:=hp n (by omega)
    obtain ⟨r1, r2, r3, r4⟩:=h.rng (l.length - 1 - n) (by omega)
    exact ⟨by omega, by omega, by omega, by omega⟩
  · obtain ⟨p1, p2⟩:=hp n (by omega)
    obtain ⟨q1, q2⟩:=hp (n - 1) (by omega)
    have:=sl_mono h (i:=l.length - 1 - n) (j:=l.length - 1 - (n - 1)) (by omega) (by omega)
    omega
theorem turned_val {a v : Int} {l l' : List Pc} (h : Cv a v l) (hl : l'.length = l.length) (hp : ∀ n, n < l.length → ln l' n = ln l (l.length - 1 - n) ∧ sl l' n = -(sl l (l.length - 1 - n))) {x : Int} (h1 : a ≤ x) (h2 : x ≤ xs a l l.length) : fv (-(xs a l l.length)) (ys v l l.length) l' (-x) l'.length = fv a v l x l.length := by
  have h':=turned_cv h hl hp
  have tx:=turned_xs (a:=a) (v:=v) hl hp
  by_cases c : x < xs a l l.length
  · obtain ⟨m, hm, g1, g2⟩:=piece_of h x h1 l.length (Nat.le_refl _) c
    obtain ⟨i1, i2⟩:=tx (l.length - 1 - m) (by omega)
    obtain ⟨j1, j2⟩:=tx (l.length - 1 - m + 1) (by omega)
    obtain ⟨p1, p2⟩:=hp (l.length - 1 - m) (by omega)
    rw [show l.length - (l.length - 1 - m) = m + 1 by omega] at i1 i2
    rw [show l.length - (l.length - 1 - m + 1) = m by omega] at j1 j2
    rw [show l.length - 1 - (l.length - 1 - m) = m by omega] at p1 p2
    have ex : xs a l (m + 1) = xs a l m + ln l m:=rfl
    have ey : ys v l (m + 1) = ys v l m + ln l m * sl l m:=rfl
    rw [fv_lin h' (m:=l.length - 1 - m) (by omega) (by omega) (by omega), i2, i1, p2, fv_lin h hm g1 (by omega), ey, ex, show -x - -(xs a l m + ln l m) = ln l m - (x - xs a l m) by omega, Int.mul_neg, Int.sub_mul]
    omega
  · have e:=fv_xs h l.length (Nat.le_refl _) l.length (Nat.le_refl _)
    have e':=fv_xs h' 0 (by omega) l'.length (Nat.le_refl _)
    have ex0 : xs (-(xs a l l.length)) l' 0 = -(xs a l l.length):=rfl
    rw [ex0] at e'
    rw [show x = xs a l l.length by omega, e, e', Nat.min_self, Nat.min_eq_right (by omega)]
    rfl
theorem moved_fv {a v : Int} {l : List Pc} (x d e : Int) : ∀ n, fv (a + d) (v + e) l (x + d) n = fv a v l x n + e := by
  have hx : ∀ n, xs (a + d) l n = xs a l n + d:=by
    intro n
    induction n with
   |zero => rfl
   |succ n ih => simp only [xs]; rw [ih]; omega
  intro n
  induction n with
 |zero => rfl
 |succ n ih =>
    simp only [fv]
    have : cl (a + d) l (x + d) n = cl a l x n:=by
      unfold cl mn
      rw [hx, hx]
      repeat' split
      all_goals omega
    rw [ih, this]
    omega
theorem moved_xs {a : Int} {l : List Pc} (d : Int) : ∀ n, xs (a + d) l n = xs a l n + d := by
  intro n
  induction n with
 |zero => rfl
 |succ n ih => simp only [xs]; rw [ih]; omega
end Go.Proofs.Ytdphghdjljplpaa.CTopStorage
