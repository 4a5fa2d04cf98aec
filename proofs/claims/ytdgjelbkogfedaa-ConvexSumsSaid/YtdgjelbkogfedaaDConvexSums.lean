import Derived.Test.YtdgjelbkogfedaaCConvexSums
namespace Go.Proofs.Ytdgjelbkogfedaa.DConvexSums
open Go.RowKit Go.Proofs.YtdgjelbkogfedaaW.PrintWords Go.Proofs.YtdgjelbkogfedaaW.PrintMore Go.Proofs.Ytdgjelbkogfedaa.Evs Go.Proofs.Ytdgjelbkogfedaa.PConvexSums Go.Proofs.Ytdgjelbkogfedaa.CConvexSums
set_option linter.unusedVariables false
set_option linter.unusedSimpArgs false
theorem high_l0 {a v : Int} {l : List Pc} (h : Cv a v l) : ∀ n, n ≤ l.length → Evt (fun k => convexpl_high.l0 k (xs a l n) l (l.length : Int) (n : Int)) (xs a l l.length) := by
  have hl:=h.len
  refine down ?_ ?_
  · refine Evt.succ ?_
    simp only [convexpl_high.l0]
    exact Evt.ite_neg (by omega) (Evt.pure _)
  · intro n hn ih
    refine Evt.succ ?_
    simp only [convexpl_high.l0]
    refine Evt.ite_pos (by omega) (Evt.ite_pos (by omega) (Evt.ite_pos (by omega) ?_))
    simp only [rdc0]
    have hb:=(h.pre (n + 1) (by omega)).1
    have e : xs a l n + ln l n = xs a l (n + 1):=rfl
    rw [e, wrap64_of (x:=xs a l (n + 1)) (by omega) (by omega), wrap64_nat (by omega)]
    exact ih
theorem high_ev {a v : Int} {l : List Pc} (h : Cv a v l) : Evt (fun k => convexpl_high.f k a v l) (xs a l l.length) := by
  simp only [convexpl_high.f]
  exact high_l0 h 0 (by omega)
theorem value_l0 {a v : Int} {l : List Pc} (h : Cv a v l) (x : Int) (hx : a ≤ x) (hx2 : x ≤ 1000000) : ∀ n, n ≤ l.length → Evt (fun k => convexpl_value.l0 k x (fv a v l x n) (mn (xs a l n) x) l (l.length : Int) (n : Int)) (fv a v l x l.length) := by
  have hl:=h.len
  have ha:=(h.pre 0 (by omega)).1
  simp only [xs] at ha
  refine down ?_ ?_
  · refine Evt.succ ?_
    simp only [convexpl_value.l0]
    exact Evt.ite_neg (by omega) (Evt.pure _)
  · intro n hn ih
    refine Evt.succ ?_
    simp only [convexpl_value.l0]
    refine Evt.ite_pos (by omega) (Evt.ite_pos (by omega) (Evt.ite_pos (by omega) ?_))
    simp only [rdc0, rdc1]
    have hr:=h.rng n hn
    obtain ⟨hr1, hr2, hr3, hr4⟩:=hr
    have hb:=(h.pre n (by omega)).1
    have ex : xs a l (n + 1) = xs a l n + ln l n:=rfl
    have hm : -1000000 ≤ mn (xs a l n) x ∧ mn (xs a l n) x ≤ x:=by
      unfold mn
      split <;> omega
    have e1 : mn (ln l n) (x - mn (xs a l n) x) = cl a l x n:=by
      unfold cl mn
      repeat' split
      all_goals omega
    have e2 : mn (xs a l n) x + cl a l x n = mn (xs a l (n + 1)) x:=by unfold cl; omega
    have hm2 : -1000000 ≤ mn (xs a l (n + 1)) x ∧ mn (xs a l (n + 1)) x ≤ x:=by
      unfold mn
      split <;> omega
    have hp:=clp_bd h x hn
    have hf:=fv_bd h x (n + 1) (by omega)
    have e3 : fv a v l x n + cl a l x n * sl l n = fv a v l x (n + 1):=rfl
    rw [wrap64_of (x:=x - mn (xs a l n) x) (by omega) (by omega), e1, e2, wrap64_of (x:=cl a l x n * sl l n) (by omega) (by omega), e3, wrap64_of (x:=fv a v l x (n + 1)) (by omega) (by omega), wrap64_of (x:=mn (xs a l (n + 1)) x) (by omega) (by omega), wrap64_nat (by omega)]
    exact ih
def atR (a v : Int) (l : List Pc) (x : Int) : Int × Int := if cvErr a v l = 0 then (if a ≤ x ∧ x ≤ xs a l l.length then (fv a v l x l.length, 0) else (0, 4)) else (0, cvErr a v l)
theorem At_ev (a v : Int) (l : List Pc) (x : Int) : Evt (fun k => convexpl_At.f k a v l x) (atR a v l x) := by
  simp only [convexpl_At.f]
  refine Evt.bind (CCheck_ev a v l) ?_
  unfold atR
  by_cases h : cvErr a v l = 0
  · rw [if_pos h]
    have hv:=cvErr_ok h
    have hb:=(hv.pre l.length (Nat.le_refl _)).1
    refine Evt.ite_pos h (Evt.ite (fun c => Evt.of_eq (if_neg (by omega)).symm) (fun c => Evt.bind (high_ev hv) (Evt.ite (fun c2 => Evt.of_eq (if_neg (by omega)).symm) (fun c2 => ?_))))
    rw [if_pos (by omega)]
    refine Evt.bind (g:=fun k => convexpl_value.f k a v l x) ?_ (Evt.pure _)
    simp only [convexpl_value.f]
    have:=value_l0 hv x (by omega) (by omega) 0 (by omega)
    simp only [xs, fv] at this
    rw [mn_le (by omega)] at this
    exact this
  · rw [if_neg h]
    exact Evt.ite_neg h (Evt.pure _)
theorem piece_of {a v : Int} {l : List Pc} (h : Cv a v l) (x : Int) (h0 : a ≤ x) : ∀ n, n ≤ l.length → x < xs a l n → ∃ m, m < n ∧ xs a l m ≤ x ∧ x < xs a l (m + 1) := by
  intro n
  induction n with
 |zero => intro _ hx; simp only [xs] at hx; omega
 |succ n ih =>
    intro hn hx
    by_cases c : x < xs a l n
    · obtain ⟨m, h1, h2, h3⟩:=ih (by omega) c
      exact ⟨m, by omega, h2, h3⟩
    · exact ⟨n, by omega, by omega, hx⟩
theorem Cv_err {a v : Int} {l : List Pc} (h : Cv a v l) : cvErr a v l = 0 := by
  have step : ∀ d n, n + d = l.length → stepC a v l d n = 0:=by
    intro d
    induction d with
   |zero => intro n _; rfl
   |succ d ih =>
      intro n hn
      simp only [stepC]
      rw [if_pos (h.rng n (by omega)), if_neg (fun c => by have:=h.srt n c.1 (by omega); omega), if_pos ⟨(h.pre (n + 1) (by omega)).1.2, (h.pre (n + 1) (by omega)).2⟩]
      exact ih (n + 1) (by omega)
  unfold cvErr
  rw [if_neg (by have:=h.len; omega), if_pos (show (-1000000 ≤ a ∧ a ≤ 1000000) ∧ okY v from h.pre 0 (by omega))]
  exact step l.length 0 (by omega)
theorem fv_lin {a v : Int} {l : List Pc} (h : Cv a v l) {x : Int} {m : Nat} (hm : m < l.length) (h1 : xs a l m ≤ x) (h2 : x ≤ xs a l (m + 1)) : fv a v l x l.length = ys v l m + (x - xs a l m) * sl l m := by
  have all : ∀ n, n ≤ l.length → fv a v l x n = (if n ≤ m then ys v l n else ys v l m + (x - xs a l m) * sl l m):=by
    intro n
    induction n with
   |zero => intro _; simp [fv, ys]
   |succ n ih =>
      intro hn
      simp only [fv]
      rw [ih (by omega)]
      have hr:=(h.rng n (by omega)).1
      have ex : xs a l (n + 1) = xs a l n + ln l n:=rfl
      rcases Nat.lt_trichotomy n m with c|c|c
      · have:=xs_mono h (i:=n + 1) (j:=m) (by omega) (by omega)
        have e : cl a l x n = ln l n:=by
          unfold cl mn
          repeat' split
          all_goals omega
        rw [e, if_pos (by omega), if_pos (by omega)]
        rfl
      · subst c
        have e : cl a l x n = x - xs a l n:=by
          unfold cl mn
          repeat' split
          all_goals omega
        rw [e, if_pos (Nat.le_refl _), if_neg (by omega)]
      · have:=xs_mono h (i:=m + 1) (j:=n) (by omega) (by omega)
        have e : cl a l x n = 0:=by
          unfold cl mn
          repeat' split
          all_goals omega
        rw [e, if_neg (by omega), if_neg (by omega)]
        omega
  rw [all l.length (Nat.le_refl _), if_neg (by omega)]
theorem fv_okY {a v : Int} {l : List Pc} (h : Cv a v l) {x : Int} (h1 : a ≤ x) (h2 : x ≤ xs a l l.length) : okY (fv a v l x l.length) := by
  by_cases c : x < xs a l l.length
  · obtain ⟨m, hm, g1, g2⟩:=piece_of h x h1 l.length (Nat.le_refl _) c
    rw [fv_lin h hm g1 (by omega)]
    have b1:=(h.pre m (by omega)).2
    have b2:=(h.pre (m + 1) (by omega)).2
    have ex : xs a l (m + 1) = xs a l m + ln l m:=rfl
    have ey : ys v l (m + 1) = ys v l m + ln l m * sl l m:=rfl
    unfold okY at b1 b2 ⊢
    rw [ey] at b2
    by_cases d : 0 ≤ sl l m
    · have e1 : 0 ≤ (x - xs a l m) * sl l m:=Int.mul_nonneg (by omega) d
      have e2 : (x - xs a l m) * sl l m ≤ ln l m * sl l m:=Int.mul_le_mul_of_nonneg_right (by omega) d
      omega
    · have e1 : 0 ≤ (x - xs a l m) * (-(sl l m)):=Int.mul_nonneg (by omega) (by omega)
      have e2 : (x - xs a l m) * (-(sl l m)) ≤ ln l m * (-(sl l m)):=Int.mul_le_mul_of_nonneg_right (by omega) (by omega)
      rw [Int.mul_neg] at e1 e2
      rw [Int.mul_neg] at e2
      omega
  · have e:=fv_xs h l.length (Nat.le_refl _) l.length (Nat.le_refl _)
    rw [show x = xs a l l.length by omega, e, Nat.min_self]
    exact (h.pre l.length (Nat.le_refl _)).2
structure Sub (a v : Int) (l : List Pc) (a' : Int) (l' : List Pc) : Prop where
  low : a ≤ a'
  hi : a' ≤ xs a l l.length
  pc : ∀ m, m < l'.length → 1 ≤ ln l' m ∧ ∃ j, j < l.length ∧ xs a l j ≤ xs a' l' m ∧ xs a' l' (m + 1) ≤ xs a l (j + 1) ∧ sl l' m = sl l j
theorem Sub.at {a v : Int} {l : List Pc} {a' : Int} {l' : List Pc} (h : Cv a v l) (s : Sub a v l a' l') : ∀ n, n ≤ l'.length → a ≤ xs a' l' n ∧ xs a' l' n ≤ xs a l l.length ∧ ys (fv a v l a' l.length) l' n = fv a v l (xs a' l' n) l.length := by
  intro n
  induction n with
 |zero => intro _; exact ⟨s.low, s.hi, rfl⟩
 |succ n ih =>
    intro hn
    obtain ⟨i1, i2, i3⟩:=ih (by omega)
    obtain ⟨p1, j, p2, p3, p4, p5⟩:=s.pc n (by omega)
    have ex : xs a' l' (n + 1) = xs a' l' n + ln l' n:=rfl
    have:=xs_mono h (i:=j + 1) (j:=l.length) (by omega) (Nat.le_refl _)
    refine ⟨by omega, by omega, ?_⟩
    simp only [ys]
    rw [i3, fv_lin h p2 p3 (by omega), fv_lin h (x:=xs a' l' (n + 1)) p2 (by omega) p4, p5, ex, show xs a' l' n + ln l' n - xs a l j = (xs a' l' n - xs a l j) + ln l' n by omega, Int.add_mul]
    omega
theorem Sub.cv {a v : Int} {l : List Pc} {a' : Int} {l' : List Pc} (h : Cv a v l) (s : Sub a v l a' l') (hl : l'.length ≤ 64) (hs : ∀ n, 0 < n → n < l'.length → sl l' (n - 1) < sl l' n) : Cv a' (fv a v l a' l.length) l' := by
  have ha:=(h.pre 0 (by omega)).1
  have hb:=(h.pre l.length (Nat.le_refl _)).1
  have ha0 : xs a l 0 = a:=rfl
  refine ⟨hl, fun n hn => ?_, fun n hn => ?_, hs⟩
  · obtain ⟨i1, i2, i3⟩:=s.at h n hn
    refine ⟨by omega, ?_⟩
    rw [i3]
    exact fv_okY h i1 i2
  · obtain ⟨i1, i2, _⟩:=s.at h n (by omega)
    obtain ⟨i4, i5, _⟩:=s.at h (n + 1) (by omega)
    obtain ⟨p1, j, p2, p3, p4, p5⟩:=s.pc n hn
    have ex : xs a' l' (n + 1) = xs a' l' n + ln l' n:=rfl
    obtain ⟨r1, r2, r3, r4⟩:=h.rng j p2
    refine ⟨p1, by omega, by omega, by omega⟩
theorem Sub.val {a v : Int} {l : List Pc} {a' : Int} {l' : List Pc} (h : Cv a v l) (s : Sub a v l a' l') (h' : Cv a' (fv a v l a' l.length) l') {x : Int} (h1 : a' ≤ x) (h2 : x ≤ xs a' l' l'.length) : fv a' (fv a v l a' l.length) l' x l'.length = fv a v l x l.length := by
  by_cases c : x < xs a' l' l'.length
  · obtain ⟨m, hm, g1, g2⟩:=piece_of h' x h1 l'.length (Nat.le_refl _) c
    obtain ⟨p1, j, p2, p3, p4, p5⟩:=s.pc m hm
    obtain ⟨i1, i2, i3⟩:=s.at h m (by omega)
    rw [fv_lin h' hm g1 (by omega), i3, fv_lin h p2 p3 (by omega), fv_lin h (x:=x) p2 (by omega) (by omega), p5, show x - xs a l j = (xs a' l' m - xs a l j) + (x - xs a' l' m) by omega, Int.add_mul]
    omega
  · have e:=fv_xs h' l'.length (Nat.le_refl _) l'.length (Nat.le_refl _)
    rw [show x = xs a' l' l'.length by omega, e, Nat.min_self]
    exact (s.at h l'.length (Nat.le_refl _)).2.2
theorem turned_xs {a v : Int} {l l' : List Pc} (hl : l'.length = l.length) (hp : ∀ n, n < l.length → ln l' n = ln l (l.length - 1 - n) ∧ sl l' n = -(sl l (l.length - 1 - n))) : ∀ n, n ≤ l.length → xs (-(xs a l l.length)) l' n = -(xs a l (l.length - n)) ∧ ys (ys v l l.length) l' n = ys v l (l.length - n) := by
  intro n
  induction n with
 |zero => intro _; exact ⟨rfl, rfl⟩
 |succ n ih =>
    intro hn
    obtain ⟨i1, i2⟩:=ih (by omega)
    obtain ⟨p1, p2⟩:=hp n (by omega)
    obtain ⟨d, hd⟩ : ∃ d, l.length - n = d + 1:=⟨l.length - n - 1, by omega⟩
    rw [hd] at i1 i2
    rw [show l.length - 1 - n = d by omega] at p1 p2
    rw [show l.length - (n + 1) = d by omega]
    simp only [xs, ys] at i1 i2 ⊢
    rw [i1, i2, p1, p2, Int.mul_neg]
    constructor <;> omega
theorem turned_cv {a v : Int} {l l' : List Pc} (h : Cv a v l) (hl : l'.length = l.length) (hp : ∀ n, n < l.length → ln l' n = ln l (l.length - 1 - n) ∧ sl l' n = -(sl l (l.length - 1 - n))) : Cv (-(xs a l l.length)) (ys v l l.length) l' := by
  refine ⟨by rw [hl]; exact h.len, fun n hn => ?_, fun n hn => ?_, fun n h0 hn => ?_⟩
  · obtain ⟨i1, i2⟩:=turned_xs (a:=a) (v:=v) hl hp n (by omega)
    have:=(h.pre (l.length - n) (by omega)).1
    refine ⟨by omega, ?_⟩
    rw [i2]
    exact (h.pre (l.length - n) (by omega)).2
  · obtain ⟨p1, p2⟩:=hp n (by omega)
    obtain ⟨r1, r2, r3, r4⟩:=h.rng (l.length - 1 - n) (by omega)
    exact ⟨by omega, by omega, by omega, by omega⟩
  · obtain ⟨p1, p2⟩:=hp n (by omega)
    obtain ⟨q1, q2⟩:=hp (n - 1) (by omega)
    have:=sl_mono h (i:=l.length - 1 - n) (j:=l.length - 1 - (n - 1)) (by omega) (by omega)
    omega
theorem turned_val {a v : Int} {l l' : List Pc} (h : Cv a v l) (hl : l'.length = l.length) (hp : ∀ n, n < l.length → ln l' n = ln l (l.length - 1 - n) ∧ sl l' n = -(sl l (l.length - 1 - n))) {x : Int} (h1 : a ≤ x) (h2 : x ≤ xs a l l.length) : fv (-(xs a l l.length)) (ys v l l.length) l' (-x) l'.length = fv a v l x l.length := by
  have h':=turned_cv h hl hp
  have tx:=turned_xs (a:=a) (v:=v) hl hp
  by_cases c : x < xs a l l.length
  · obtain ⟨m, hm, g1, g2⟩:=piece_of h x h1 l.length (Nat.le_refl _) c
    obtain ⟨i1, i2⟩:=tx (l.length - 1 - m) (by omega)
    obtain ⟨j1, j2⟩:=tx (l.length - 1 - m + 1) (by omega)
    obtain ⟨p1, p2⟩:=hp (l.length - 1 - m) (by omega)
    rw [show l.length - (l.length - 1 - m) = m + 1 by omega] at i1 i2
    rw [show l.length - (l.length - 1 - m + 1) = m by omega] at j1 j2
    rw [show l.length - 1 - (l.length - 1 - m) = m by omega] at p1 p2
    have ex : xs a l (m + 1) = xs a l m + ln l m:=rfl
    have ey : ys v l (m + 1) = ys v l m + ln l m * sl l m:=rfl
    rw [fv_lin h' (m:=l.length - 1 - m) (by omega) (by omega) (by omega), i2, i1, p2, fv_lin h hm g1 (by omega), ey, ex, show -x - -(xs a l m + ln l m) = ln l m - (x - xs a l m) by omega, Int.mul_neg, Int.sub_mul]
    omega
  · have e:=fv_xs h l.length (Nat.le_refl _) l.length (Nat.le_refl _)
    have e':=fv_xs h' 0 (by omega) l'.length (Nat.le_refl _)
    have ex0 : xs (-(xs a l l.length)) l' 0 = -(xs a l l.length):=rfl
    rw [ex0] at e'
    rw [show x = xs a l l.length by omega, e, e', Nat.min_self, Nat.min_eq_right (by omega)]
    rfl
theorem moved_fv {a v : Int} {l : List Pc} (x d e : Int) : ∀ n, fv (a + d) (v + e) l (x + d) n = fv a v l x n + e := by
  have hx : ∀ n, xs (a + d) l n = xs a l n + d:=by
    intro n
    induction n with
   |zero => rfl
   |succ n ih => simp only [xs]; rw [ih]; omega
  intro n
  induction n with
 |zero => rfl
 |succ n ih =>
    simp only [fv]
    have : cl (a + d) l (x + d) n = cl a l x n:=by
      unfold cl mn
      rw [hx, hx]
      repeat' split
      all_goals omega
    rw [ih, this]
    omega
theorem moved_xs {a : Int} {l : List Pc} (d : Int) : ∀ n, xs (a + d) l n = xs a l n + d := by
  intro n
  induction n with
 |zero => rfl
 |succ n ih => simp only [xs]; rw [ih]; omega
end Go.Proofs.Ytdgjelbkogfedaa.DConvexSums
