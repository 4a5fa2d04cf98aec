import Derived.Test.YtdgjelbkogfedaaEvs
import Derived.Test.YtdgjelbkogfedaaHConvexSumsy13
namespace Go.Proofs.Ytdgjelbkogfedaa.CConvexSums
open Go.RowKit Go.Proofs.YtdgjelbkogfedaaW.PrintWords Go.Proofs.YtdgjelbkogfedaaW.PrintMore Go.Proofs.Ytdgjelbkogfedaa.Evs Go.Proofs.Ytdgjelbkogfedaa.PConvexSums
set_option linter.unusedVariables false
set_option linter.unusedSimpArgs false
theorem in_eq (a b c : Int) : gridhallref3_In.f a b c = some (decide (b ≤ a ∧ a ≤ c)) := by
  unfold gridhallref3_In.f
  by_cases h : a ≥ b
  · rw [if_pos h]
    congr 1
    exact decide_eq_decide.2 (by omega)
  · rw [if_neg h, decide_eq_false (by omega)]
abbrev Pc := S88
abbrev zPc : Pc := z88
def ln (l : List Pc) (n : Nat) : Int := (l.getD n zPc).f0
def sl (l : List Pc) (n : Nat) : Int := (l.getD n zPc).f1
theorem rdc0 (l : List Pc) (n : Nat) : (rd_T88 l (n : Int)).f0 = ln l n := Eq.trans rfl rfl
theorem rdc1 (l : List Pc) (n : Nat) : (rd_T88 l (n : Int)).f1 = sl l n := Eq.trans rfl rfl
theorem mulb {a b A B : Int} (h1 : 0 ≤ a) (h2 : a ≤ A) (h3 : -B ≤ b) (h4 : b ≤ B) : -(A * B) ≤ a * b ∧ a * b ≤ A * B := by
  have hB : 0 ≤ B:=by omega
  have e1 : a * B ≤ A * B:=Int.mul_le_mul_of_nonneg_right h2 hB
  have e2 : a * b ≤ a * B:=Int.mul_le_mul_of_nonneg_left h4 h1
  have e3 : a * (-B) ≤ a * b:=Int.mul_le_mul_of_nonneg_left h3 h1
  rw [Int.mul_neg] at e3
  omega
def xs (a : Int) (l : List Pc) : Nat → Int
 |0 => a
 |n + 1 => xs a l n + ln l n
def ys (v : Int) (l : List Pc) : Nat → Int
 |0 => v
 |n + 1 => ys v l n + ln l n * sl l n
def okP (l : List Pc) (n : Nat) : Prop := 1 ≤ ln l n ∧ ln l n ≤ 2000000 ∧ -10000000 ≤ sl l n ∧ sl l n ≤ 10000000
instance (l : List Pc) (n : Nat) : Decidable (okP l n) := by unfold okP; exact inferInstance
def okY (y : Int) : Prop := -1000000000000000 ≤ y ∧ y ≤ 1000000000000000
instance (y : Int) : Decidable (okY y) := by unfold okY; exact inferInstance
def stepC (a v : Int) (l : List Pc) : Nat → Nat → Int
 |0, _ => 0
 |d + 1, n => if okP l n then (if 0 < n ∧ sl l n ≤ sl l (n - 1) then 3 else if xs a l (n + 1) ≤ 1000000 ∧ okY (ys v l (n + 1)) then stepC a v l d (n + 1) else 4) else 4
def cvErr (a v : Int) (l : List Pc) : Int := if l.length > 64 then 2 else if (-1000000 ≤ a ∧ a ≤ 1000000) ∧ okY v then stepC a v l l.length 0 else 4
def PreC (a v : Int) (l : List Pc) (n : Nat) : Prop := (-1000000 ≤ xs a l n ∧ xs a l n ≤ 1000000) ∧ okY (ys v l n)
structure Cv (a v : Int) (l : List Pc) : Prop where
  len : l.length ≤ 64
  pre : ∀ n, n ≤ l.length → PreC a v l n
  rng : ∀ n, n < l.length → okP l n
  srt : ∀ n, 0 < n → n < l.length → sl l (n - 1) < sl l n
theorem stepC_ok (a v : Int) (l : List Pc) : ∀ d n, n + d = l.length → PreC a v l n → stepC a v l d n = 0 →
    (∀ m, n ≤ m → m ≤ l.length → PreC a v l m) ∧ (∀ m, n ≤ m → m < l.length → okP l m) ∧ (∀ m, n ≤ m → 0 < m → m < l.length → sl l (m - 1) < sl l m):=by
  intro d
  induction d with
 |zero =>
    intro n hn hp _
    refine ⟨fun m h1 h2 => ?_, fun m h1 h2 => by omega, fun m h1 _ h2 => by omega⟩
    have : m = n:=by omega
    subst this
    exact hp
 |succ d ih =>
    intro n hn hp h
    simp only [stepC] at h
    by_cases c1 : okP l n
    · rw [if_pos c1] at h
      by_cases c2 : 0 < n ∧ sl l n ≤ sl l (n - 1)
      · rw [if_pos c2] at h
        omega
      · rw [if_neg c2] at h
        by_cases c3 : xs a l (n + 1) ≤ 1000000 ∧ okY (ys v l (n + 1))
        · rw [if_pos c3] at h
          have hp' : PreC a v l (n + 1):=by
            refine ⟨⟨?_, c3.1⟩, c3.2⟩
            have h1:=hp.1
            have h2:=c1.1
            simp only [xs]
            omega
          obtain ⟨h1, h2, h3⟩:=ih (n + 1) (by omega) hp' h
          refine ⟨fun m a1 a2 => ?_, fun m a1 a2 => ?_, fun m a1 a2 a3 => ?_⟩
          · by_cases e : m = n
            · subst e
              exact hp
            · exact h1 m (by omega) a2
          · by_cases e : m = n
            · subst e
              exact c1
            · exact h2 m (by omega) a2
          · by_cases e : m = n
            · subst e
              omega
            · exact h3 m (by omega) a2 a3
        · rw [if_neg c3] at h
          omega
    · rw [if_neg c1] at h
      omega
theorem cvErr_ok {a v : Int} {l : List Pc} (h : cvErr a v l = 0) : Cv a v l := by
  unfold cvErr at h
  by_cases c1 : l.length > 64
  · rw [if_pos c1] at h
    omega
  · rw [if_neg c1] at h
    by_cases c2 : (-1000000 ≤ a ∧ a ≤ 1000000) ∧ okY v
    · rw [if_pos c2] at h
      obtain ⟨h1, h2, h3⟩:=stepC_ok a v l l.length 0 (by omega) c2 h
      exact ⟨by omega, fun n hn => h1 n (by omega) hn, fun n hn => h2 n (by omega) hn, fun n h0 hn => h3 n (by omega) h0 hn⟩
    · rw [if_neg c2] at h
      omega
theorem pred_castC {n : Nat} (h : 0 < n) (hb : n ≤ 9223372036854775807) : wrap64 ((n : Int) - 1) = ((n - 1 : Nat) : Int) := by
  unfold wrap64
  omega
theorem prod_bd {l : List Pc} {n : Nat} (h : okP l n) : -20000000000000 ≤ ln l n * sl l n ∧ ln l n * sl l n ≤ 20000000000000 := by
  obtain ⟨h1, h2, h3, h4⟩:=h
  have:=mulb (a:=ln l n) (b:=sl l n) (A:=2000000) (B:=10000000) (by omega) h2 h3 h4
  omega
theorem CCheck_l0 (a v : Int) (l : List Pc) (hl : l.length ≤ 64) : ∀ n, n ≤ l.length → PreC a v l n → Evt (fun k => convexpl_Check.l0 k (xs a l n) (ys v l n) l (l.length : Int) (n : Int) a v l) (stepC a v l (l.length - n) n) := by
  refine down ?_ ?_
  · intro _
    refine Evt.succ ?_
    simp only [convexpl_Check.l0, Nat.sub_self, stepC]
    exact Evt.ite_neg (by omega) (Evt.pure _)
  · intro n hn ih hp
    obtain ⟨d, hd⟩ : ∃ d, l.length - n = d + 1:=⟨l.length - n - 1, by omega⟩
    rw [show l.length - (n + 1) = d by omega] at ih
    rw [hd]
    obtain ⟨hp1, hp2, hp3⟩:=hp
    have no : ¬ okP l n → 4 = stepC a v l (d + 1) n:=fun h => by simp only [stepC]; exact (if_neg h).symm
    have j3 : okP l n → ∀ b, b = decide (0 < n ∧ sl l n ≤ sl l (n - 1)) → Evt (fun k => convexpl_Check.j3 k (xs a l n) (ys v l n) l (l.length : Int) (n : Int) b a v l (ln l n) (sl l n)) (stepC a v l (d + 1) n):=by
      intro hc b hb
      have hpb:=prod_bd hc
      have e0 : stepC a v l (d + 1) n = (if 0 < n ∧ sl l n ≤ sl l (n - 1) then 3 else if xs a l (n + 1) ≤ 1000000 ∧ okY (ys v l (n + 1)) then stepC a v l d (n + 1) else 4):=by simp only [stepC]; exact if_pos hc
      rw [e0]
      obtain ⟨hc1, hc2, hc3, hc4⟩:=hc
      refine Evt.succ ?_
      simp only [convexpl_Check.j3]
      have ex : xs a l n + ln l n = xs a l (n + 1):=rfl
      have ey : ys v l n + ln l n * sl l n = ys v l (n + 1):=rfl
      have hx : -1000000 ≤ xs a l (n + 1) ∧ xs a l (n + 1) ≤ 3000000:=by rw [← ex]; omega
      have hy : -2000000000000000 ≤ ys v l (n + 1) ∧ ys v l (n + 1) ≤ 2000000000000000:=by rw [← ey]; omega
      rw [ex, wrap64_of (x:=ln l n * sl l n) (by omega) (by omega), ey, wrap64_of (x:=xs a l (n + 1)) (by omega) (by omega), wrap64_of (x:=ys v l (n + 1)) (by omega) (by omega), wrap64_nat (by omega)]
      subst hb
      refine Evt.ite (fun c => Evt.of_eq (if_pos (of_decide_eq_true c)).symm) (fun c => ?_)
      rw [if_neg (fun h => c (decide_eq_true h))]
      refine Evt.ite (fun c2 => Evt.of_eq (if_neg (fun h => by omega)).symm) (fun c2 => Evt.ite (fun c3 => Evt.of_eq (if_neg (fun h => by have:=h.2.1; omega)).symm) (fun c3 => Evt.ite (fun c4 => Evt.of_eq (if_neg (fun h => by have:=h.2.2; omega)).symm) (fun c4 => ?_)))
      rw [if_pos ⟨by omega, by unfold okY; omega⟩]
      exact ih ⟨by omega, by unfold okY; omega⟩
    have j2t : ¬ okP l n → ∀ b, b = true → Evt (fun k => convexpl_Check.j2 k (xs a l n) (ys v l n) (n : Int) l (l.length : Int) (n : Int) b a v l (ln l n) (sl l n)) (stepC a v l (d + 1) n):=by
      intro hc b hb
      subst hb
      refine Evt.succ ?_
      simp only [convexpl_Check.j2]
      exact Evt.ite_pos (by simp) (Evt.of_eq (no hc))
    have j2f : okP l n → ∀ b, b = false → Evt (fun k => convexpl_Check.j2 k (xs a l n) (ys v l n) (n : Int) l (l.length : Int) (n : Int) b a v l (ln l n) (sl l n)) (stepC a v l (d + 1) n):=by
      intro hc b hb
      subst hb
      refine Evt.succ ?_
      simp only [convexpl_Check.j2]
      refine Evt.ite_neg (by simp) (Evt.ite (fun h => ?_) (fun h => ?_))
      · rw [pred_castC (by omega) (by omega)]
        refine Evt.ite_pos (by omega) (Evt.ite_pos (by omega) ?_)
        simp only [rdc1]
        refine j3 hc _ (decide_eq_decide.2 ?_)
        omega
      · exact j3 hc _ (decide_eq_false (by omega)).symm
    refine Evt.succ ?_
    simp only [convexpl_Check.l0]
    refine Evt.ite_pos (by omega) (Evt.ite_pos (by omega) (Evt.ite_pos (by omega) ?_))
    simp only [rdc0, rdc1]
    refine Evt.ite (fun h => j2t (by unfold okP; omega) _ rfl) (fun h1 => Evt.ite (fun h => j2t (by unfold okP; omega) _ rfl) (fun h2 => Evt.ite (fun h => j2t (by unfold okP; omega) _ rfl) (fun h3 => ?_)))
    by_cases h4 : sl l n > 10000000
    · exact j2t (by unfold okP; omega) _ (decide_eq_true h4)
    · exact j2f (by unfold okP; omega) _ (decide_eq_false h4)
theorem CCheck_ev (a v : Int) (l : List Pc) : Evt (fun k => convexpl_Check.f k a v l) (cvErr a v l) := by
  simp only [convexpl_Check.f]
  unfold cvErr
  by_cases h2 : l.length > 64
  · rw [if_pos h2]
    exact Evt.ite_pos (by omega) (Evt.pure _)
  · rw [if_neg h2]
    refine Evt.ite_neg (by omega) ?_
    have bad : ∀ b, b = true → Evt (fun k => convexpl_Check.j0 k b a v l) 4:=by
      intro b hb
      subst hb
      refine Evt.succ ?_
      simp only [convexpl_Check.j0]
      exact Evt.ite_pos (by simp) (Evt.pure _)
    by_cases h : (-1000000 ≤ a ∧ a ≤ 1000000) ∧ okY v
    · rw [if_pos h]
      have h':=h
      obtain ⟨h1, h3, h4⟩:=h
      rw [decide_eq_false (by omega)]
      refine Evt.ite_neg (by omega) (Evt.ite_neg (by omega) (Evt.ite_neg (by omega) (Evt.succ ?_)))
      simp only [convexpl_Check.j0]
      exact Evt.ite_neg (by simp) (CCheck_l0 a v l (by omega) 0 (by omega) h')
    · rw [if_neg h]
      refine Evt.ite (fun _ => bad _ rfl) (fun c1 => Evt.ite (fun _ => bad _ rfl) (fun c2 => Evt.ite (fun _ => bad _ rfl) (fun c3 => bad _ (decide_eq_true ?_))))
      apply Decidable.byContradiction
      intro c4
      exact h ⟨by omega, by unfold okY; omega⟩
theorem ConvexError_l0 (a v : Int) (l : List Pc) (hl : l.length ≤ 64) : ∀ n, n ≤ l.length → PreC a v l n → Evt (fun k => gridhallref3_ConvexError.l0 k (xs a l n) (ys v l n) l (l.length : Int) (n : Int) a v l) (stepC a v l (l.length - n) n) := by
  refine down ?_ ?_
  · intro _
    refine Evt.succ ?_
    simp only [gridhallref3_ConvexError.l0, Nat.sub_self, stepC]
    exact Evt.ite_neg (by omega) (Evt.pure _)
  · intro n hn ih hp
    obtain ⟨d, hd⟩ : ∃ d, l.length - n = d + 1:=⟨l.length - n - 1, by omega⟩
    rw [show l.length - (n + 1) = d by omega] at ih
    rw [hd]
    obtain ⟨hp1, hp2, hp3⟩:=hp
    have no : ¬ okP l n → 4 = stepC a v l (d + 1) n:=fun h => by simp only [stepC]; exact (if_neg h).symm
    have j3 : okP l n → ∀ b, b = decide (0 < n ∧ sl l n ≤ sl l (n - 1)) → Evt (fun k => gridhallref3_ConvexError.j3 k (xs a l n) (ys v l n) l (l.length : Int) (n : Int) b a v l (ln l n) (sl l n)) (stepC a v l (d + 1) n):=by
      intro hc b hb
      have hpb:=prod_bd hc
      have e0 : stepC a v l (d + 1) n = (if 0 < n ∧ sl l n ≤ sl l (n - 1) then 3 else if xs a l (n + 1) ≤ 1000000 ∧ okY (ys v l (n + 1)) then stepC a v l d (n + 1) else 4):=by simp only [stepC]; exact if_pos hc
      rw [e0]
      obtain ⟨hc1, hc2, hc3, hc4⟩:=hc
      refine Evt.succ ?_
      simp only [gridhallref3_ConvexError.j3, in_eq, Option.bind_some]
      have ex : xs a l n + ln l n = xs a l (n + 1):=rfl
      have ey : ys v l n + ln l n * sl l n = ys v l (n + 1):=rfl
      have hx : -1000000 ≤ xs a l (n + 1) ∧ xs a l (n + 1) ≤ 3000000:=by rw [← ex]; omega
      have hy : -2000000000000000 ≤ ys v l (n + 1) ∧ ys v l (n + 1) ≤ 2000000000000000:=by rw [← ey]; omega
      rw [ex, wrap64_of (x:=ln l n * sl l n) (by omega) (by omega), ey, wrap64_of (x:=xs a l (n + 1)) (by omega) (by omega), wrap64_of (x:=ys v l (n + 1)) (by omega) (by omega), wrap64_nat (by omega)]
      subst hb
      refine Evt.ite (fun c => Evt.of_eq (if_pos (of_decide_eq_true c)).symm) (fun c => ?_)
      rw [if_neg (fun h => c (decide_eq_true h))]
      refine Evt.ite (fun c2 => Evt.of_eq (if_neg (fun h => by omega)).symm) (fun c2 => Evt.ite (fun c3 => ?_) (fun c3 => Evt.of_eq (if_neg (fun h => c3 (decide_eq_true h.2))).symm))
      have c3:=of_decide_eq_true c3
      rw [if_pos ⟨by omega, c3⟩]
      exact ih ⟨by omega, c3⟩
    have j2t : ¬ okP l n → ∀ b, b = true → Evt (fun k => gridhallref3_ConvexError.j2 k (xs a l n) (ys v l n) (n : Int) l (l.length : Int) (n : Int) b a v l (ln l n) (sl l n)) (stepC a v l (d + 1) n):=by
      intro hc b hb
      subst hb
      refine Evt.succ ?_
      simp only [gridhallref3_ConvexError.j2]
      exact Evt.ite_pos (by simp) (Evt.of_eq (no hc))
    have j2f : okP l n → ∀ b, b = false → Evt (fun k => gridhallref3_ConvexError.j2 k (xs a l n) (ys v l n) (n : Int) l (l.length : Int) (n : Int) b a v l (ln l n) (sl l n)) (stepC a v l (d + 1) n):=by
      intro hc b hb
      subst hb
      refine Evt.succ ?_
      simp only [gridhallref3_ConvexError.j2]
      refine Evt.ite_neg (by simp) (Evt.ite (fun h => ?_) (fun h => ?_))
      · rw [pred_castC (by omega) (by omega)]
        refine Evt.ite_pos (by omega) (Evt.ite_pos (by omega) ?_)
        simp only [rdc1]
        refine j3 hc _ (decide_eq_decide.2 ?_)
        omega
      · exact j3 hc _ (decide_eq_false (by omega)).symm
    refine Evt.succ ?_
    simp only [gridhallref3_ConvexError.l0]
    refine Evt.ite_pos (by omega) (Evt.ite_pos (by omega) (Evt.ite_pos (by omega) ?_))
    simp only [rdc0, rdc1, in_eq, Option.bind_some]
    refine Evt.ite (fun h => ?_) (fun h => ?_)
    · have h:=of_decide_eq_true h
      by_cases h4 : -10000000 ≤ sl l n ∧ sl l n ≤ 10000000
      · exact j2f (by unfold okP; omega) _ (by rw [decide_eq_true h4]; rfl)
      · exact j2t (by unfold okP; omega) _ (by rw [decide_eq_false h4]; rfl)
    · have h : ¬ (1 ≤ ln l n ∧ ln l n ≤ 2000000):=fun h2 => h (decide_eq_true h2)
      exact j2t (by unfold okP; omega) _ rfl
theorem ConvexError_ev (a v : Int) (l : List Pc) : Evt (fun k => gridhallref3_ConvexError.f k a v l) (cvErr a v l) := by
  simp only [gridhallref3_ConvexError.f, in_eq, Option.bind_some]
  unfold cvErr
  by_cases h2 : l.length > 64
  · rw [if_pos h2]
    exact Evt.ite_pos (by omega) (Evt.pure _)
  · rw [if_neg h2]
    refine Evt.ite_neg (by omega) ?_
    have bad : ∀ b, b = true → Evt (fun k => gridhallref3_ConvexError.j0 k b a v l) 4:=by
      intro b hb
      subst hb
      refine Evt.succ ?_
      simp only [gridhallref3_ConvexError.j0]
      exact Evt.ite_pos (by simp) (Evt.pure _)
    by_cases h1 : -1000000 ≤ a ∧ a ≤ 1000000
    · refine Evt.ite_pos (decide_eq_true h1) ?_
      by_cases h3 : okY v
      · rw [if_pos ⟨h1, h3⟩]
        have e : (!decide (-1000000000000000 ≤ v ∧ v ≤ 1000000000000000)) = false:=by rw [decide_eq_true (show -1000000000000000 ≤ v ∧ v ≤ 1000000000000000 from h3)]; rfl
        rw [e]
        refine Evt.succ ?_
        simp only [gridhallref3_ConvexError.j0]
        exact Evt.ite_neg (by simp) (ConvexError_l0 a v l (by omega) 0 (by omega) ⟨h1, h3⟩)
      · rw [if_neg (fun h => h3 h.2)]
        exact bad _ (by rw [decide_eq_false (show ¬ (-1000000000000000 ≤ v ∧ v ≤ 1000000000000000) from h3)]; rfl)
    · rw [if_neg (fun h => h1 h.1)]
      exact Evt.ite_neg (fun h => h1 (of_decide_eq_true h)) (bad _ rfl)
theorem xs_mono {a v : Int} {l : List Pc} (h : Cv a v l) {i j : Nat} (hij : i ≤ j) (hj : j ≤ l.length) : xs a l i ≤ xs a l j := by
  induction j with
 |zero =>
    have : i = 0:=by omega
    rw [this]
    exact Int.le_refl _
 |succ j ih =>
    by_cases e : i = j + 1
    · rw [e]
      exact Int.le_refl _
    · have h1:=ih (by omega) (by omega)
      have h2:=(h.rng j (by omega)).1
      simp only [xs]
      omega
theorem sl_mono {a v : Int} {l : List Pc} (h : Cv a v l) {i j : Nat} (hij : i < j) (hj : j < l.length) : sl l i < sl l j := by
  induction j with
 |zero => omega
 |succ j ih =>
    have h2:=h.srt (j + 1) (by omega) hj
    simp only [Nat.add_sub_cancel] at h2
    by_cases e : i = j
    · rw [e]
      exact h2
    · have h1:=ih (by omega) (by omega)
      omega
def cl (a : Int) (l : List Pc) (x : Int) (n : Nat) : Int := mn (xs a l (n + 1)) x - mn (xs a l n) x
def fv (a v : Int) (l : List Pc) (x : Int) : Nat → Int
 |0 => v
 |n + 1 => fv a v l x n + cl a l x n * sl l n
theorem cl_bd {a : Int} {l : List Pc} (x : Int) {n : Nat} (h : 0 ≤ ln l n) : 0 ≤ cl a l x n ∧ cl a l x n ≤ ln l n := by
  have e : xs a l (n + 1) = xs a l n + ln l n:=rfl
  unfold cl mn
  split <;> split <;> omega
theorem clp_bd {a v : Int} {l : List Pc} (h : Cv a v l) (x : Int) {n : Nat} (hn : n < l.length) : -20000000000000 ≤ cl a l x n * sl l n ∧ cl a l x n * sl l n ≤ 20000000000000 := by
  obtain ⟨h1, h2, h3, h4⟩:=h.rng n hn
  have hc:=cl_bd (a:=a) (l:=l) x (n:=n) (by omega)
  have:=mulb (a:=cl a l x n) (b:=sl l n) (A:=2000000) (B:=10000000) hc.1 (by omega) h3 h4
  omega
theorem fv_bd {a v : Int} {l : List Pc} (h : Cv a v l) (x : Int) : ∀ n, n ≤ l.length → -1000000000000000 - 20000000000000 * (n : Int) ≤ fv a v l x n ∧ fv a v l x n ≤ 1000000000000000 + 20000000000000 * (n : Int) := by
  intro n
  induction n with
 |zero =>
    intro _
    have:=(h.pre 0 (by omega)).2
    have h1:=this.1
    have h2:=this.2
    simp only [ys] at h1 h2
    simp only [fv]
    omega
 |succ n ih =>
    intro hn
    have h0:=ih (by omega)
    have h1:=clp_bd h x (n:=n) (by omega)
    simp only [fv]
    omega
theorem fv_succ {a v : Int} {l : List Pc} (h : Cv a v l) (x : Int) (m : Nat) (hm : m < l.length) (h1 : xs a l m ≤ x) (h2 : x < xs a l (m + 1)) : ∀ n, n ≤ l.length → fv a v l (x + 1) n = fv a v l x n + (if m < n then sl l m else 0) := by
  intro n
  induction n with
 |zero => intro _; simp [fv]
 |succ n ih =>
    intro hn
    simp only [fv]
    rw [ih (by omega)]
    have hr:=(h.rng n (by omega)).1
    have ex : xs a l (n + 1) = xs a l n + ln l n:=rfl
    rcases Nat.lt_trichotomy m n with c|c|c
    · have:=xs_mono h (i:=m + 1) (j:=n) (by omega) (by omega)
      have e : cl a l (x + 1) n = cl a l x n:=by
        unfold cl mn
        repeat' split
        all_goals omega
      rw [e, if_pos (by omega), if_pos (by omega)]
      omega
    · subst c
      have e : cl a l (x + 1) m = cl a l x m + 1:=by
        unfold cl mn
        repeat' split
        all_goals omega
      rw [e, if_neg (by omega), if_pos (by omega), Int.add_mul, Int.one_mul]
      omega
    · have:=xs_mono h (i:=n + 1) (j:=m) (by omega) (by omega)
      have e : cl a l (x + 1) n = cl a l x n:=by
        unfold cl mn
        repeat' split
        all_goals omega
      rw [e, if_neg (by omega), if_neg (by omega)]
      omega
theorem fv_xs {a v : Int} {l : List Pc} (h : Cv a v l) (m : Nat) (hm : m ≤ l.length) : ∀ n, n ≤ l.length → fv a v l (xs a l m) n = ys v l (min n m) := by
  intro n
  induction n with
 |zero => intro _; simp [fv, ys]
 |succ n ih =>
    intro hn
    simp only [fv]
    rw [ih (by omega)]
    have hr:=(h.rng n (by omega)).1
    have ex : xs a l (n + 1) = xs a l n + ln l n:=rfl
    by_cases c : n < m
    · have:=xs_mono h (i:=n + 1) (j:=m) (by omega) hm
      have e : cl a l (xs a l m) n = ln l n:=by
        unfold cl mn
        repeat' split
        all_goals omega
      rw [e, Nat.min_eq_left (by omega), Nat.min_eq_left (by omega)]
      rfl
    · have:=xs_mono h (i:=m) (j:=n) (by omega) (by omega)
      have e : cl a l (xs a l m) n = 0:=by
        unfold cl mn
        repeat' split
        all_goals omega
      rw [e, Nat.min_eq_right (by omega), Nat.min_eq_right (by omega)]
      omega
def F (a v : Int) (l : List Pc) (i : Nat) : Int := fv a v l (a + i) l.length
theorem F_bd {a v : Int} {l : List Pc} (h : Cv a v l) (i : Nat) : -3000000000000000 ≤ F a v l i ∧ F a v l i ≤ 3000000000000000 := by
  have:=fv_bd h (a + i) l.length (Nat.le_refl _)
  have:=h.len
  unfold F
  omega
theorem F_zero {a v : Int} {l : List Pc} (h : Cv a v l) : F a v l 0 = v := by
  have:=fv_xs h 0 (by omega) l.length (Nat.le_refl _)
  rw [Nat.min_eq_right (by omega)] at this
  simp only [xs, ys] at this
  unfold F
  rw [show a + ((0 : Nat) : Int) = a by omega]
  exact this
theorem F_succ {a v : Int} {l : List Pc} (h : Cv a v l) (i m : Nat) (hm : m < l.length) (h1 : xs a l m ≤ a + i) (h2 : a + i < xs a l (m + 1)) : F a v l (i + 1) = F a v l i + sl l m := by
  have:=fv_succ h (a + i) m hm h1 h2 l.length (Nat.le_refl _)
  rw [if_pos hm] at this
  unfold F
  rw [← this]
  congr 1
  omega
def FL (a v : Int) (l : List Pc) (n : Nat) : List Int := (List.range n).map (F a v l)
theorem FL_len (a v : Int) (l : List Pc) (n : Nat) : (FL a v l n).length = n := by simp [FL]
theorem FL_get (a v : Int) (l : List Pc) {n i : Nat} (h : i < n) : rd (FL a v l n) (i : Int) = F a v l i := by
  unfold rd FL
  rw [List.getD_eq_getElem?_getD]
  simp [h]
theorem FL_snoc (a v : Int) (l : List Pc) (n : Nat) : FL a v l n ++ [F a v l n] = FL a v l (n + 1) := by
  simp [FL, List.range_succ]
theorem Values_l1 {a v : Int} {l : List Pc} (h : Cv a v l) (m : Nat) (hm : m < l.length) (p : Nat) (hp : xs a l m = a + p) (r : List Int) (L : Nat) (hL : ln l m = (L : Int))
    (hr : Evt (fun k => gridhallref3_Values.l0 k (FL a v l (p + L + 1)) l (l.length : Int) ((m + 1 : Nat) : Int)) r) :
    ∀ j, j ≤ L → Evt (fun k => gridhallref3_Values.l1 k (FL a v l (p + j + 1)) l (l.length : Int) (m : Int) (L : Int) (j : Int) (ln l m) (sl l m)) r:=by
  have hl:=h.len
  have hr1:=h.rng m hm
  have hpx:=(h.pre m (by omega)).1
  have ha:=(h.pre 0 (by omega)).1
  have ha0 : xs a l 0 = a:=rfl
  rw [ha0] at ha
  obtain ⟨hr2, hr3, hr4, hr5⟩:=hr1
  refine down ?_ ?_
  · refine Evt.succ ?_
    simp only [gridhallref3_Values.l1]
    rw [wrap64_nat (n:=m) (by omega)]
    exact Evt.ite_neg (by omega) hr
  · intro j hj ih
    refine Evt.succ ?_
    simp only [gridhallref3_Values.l1, FL_len]
    rw [show wrap64 (((p + j + 1 : Nat) : Int) - 1) = ((p + j : Nat) : Int) by unfold wrap64; omega, FL_get a v l (show p + j < p + j + 1 by omega), wrap64_nat (n:=j) (by omega)]
    have ex : xs a l (m + 1) = xs a l m + ln l m:=rfl
    have e:=F_succ h (p + j) m hm (by omega) (by omega)
    have hb:=F_bd h (p + j)
    rw [wrap64_of (x:=F a v l (p + j) + sl l m) (by omega) (by omega), ← e, FL_snoc]
    exact Evt.ite_pos (by omega) (Evt.ite_pos (by omega) (Evt.ite_pos (by omega) (Evt.ite_pos (by omega) ih)))
theorem Values_l0 {a v : Int} {l : List Pc} (h : Cv a v l) : ∀ m, m ≤ l.length → Evt (fun k => gridhallref3_Values.l0 k (FL a v l ((xs a l m - a).toNat + 1)) l (l.length : Int) (m : Int)) (FL a v l ((xs a l l.length - a).toNat + 1)) := by
  have hl:=h.len
  refine down ?_ ?_
  · refine Evt.succ ?_
    simp only [gridhallref3_Values.l0]
    exact Evt.ite_neg (by omega) (Evt.pure _)
  · intro m hm ih
    refine Evt.succ ?_
    simp only [gridhallref3_Values.l0]
    refine Evt.ite_pos (by omega) (Evt.ite_pos (by omega) (Evt.ite_pos (by omega) ?_))
    simp only [rdc0, rdc1]
    have hr:=(h.rng m hm).1
    have h0:=xs_mono h (i:=0) (j:=m) (by omega) (by omega)
    have ex : xs a l (m + 1) = xs a l m + ln l m:=rfl
    simp only [xs] at h0
    obtain ⟨p, hp⟩ : ∃ p : Nat, xs a l m = a + p:=⟨(xs a l m - a).toNat, by omega⟩
    obtain ⟨L, hL⟩ : ∃ L : Nat, ln l m = (L : Int):=⟨(ln l m).toNat, by omega⟩
    rw [show (xs a l (m + 1) - a).toNat + 1 = p + L + 1 by omega] at ih
    have:=Values_l1 h m hm p hp _ L hL ih 0 (by omega)
    rw [show (xs a l m - a).toNat + 1 = p + 0 + 1 by omega]
    rw [hL] at this ⊢
    exact this
theorem Values_ev {a v : Int} {l : List Pc} (h : Cv a v l) : Evt (fun k => gridhallref3_Values.f k a v l) (FL a v l ((xs a l l.length - a).toNat + 1)) := by
  simp only [gridhallref3_Values.f]
  have e : ([v] : List Int) = FL a v l ((xs a l 0 - a).toNat + 1):=by
    have e1 : (xs a l 0 - a).toNat + 1 = 1:=by simp [xs]
    rw [e1]
    simp [FL, List.range_succ, F_zero h]
  rw [e]
  exact Values_l0 h 0 (by omega)
end Go.Proofs.Ytdgjelbkogfedaa.CConvexSums
