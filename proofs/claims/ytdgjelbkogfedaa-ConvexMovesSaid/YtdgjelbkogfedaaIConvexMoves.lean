import Derived.Test.YtdgjelbkogfedaaGConvexMoves
import Derived.Test.YtdgjelbkogfedaaHConvexMovesy13
namespace Go.Proofs.Ytdgjelbkogfedaa.IConvexMoves
open Go.RowKit Go.Proofs.YtdgjelbkogfedaaW.PrintWords Go.Proofs.YtdgjelbkogfedaaW.PrintMore Go.Proofs.Ytdgjelbkogfedaa.Evs Go.Proofs.Ytdgjelbkogfedaa.PConvexMoves Go.Proofs.Ytdgjelbkogfedaa.CConvexMoves Go.Proofs.Ytdgjelbkogfedaa.DConvexMoves Go.Proofs.Ytdgjelbkogfedaa.ZConvexMoves Go.Proofs.Ytdgjelbkogfedaa.XConvexMoves Go.Proofs.Ytdgjelbkogfedaa.EConvexMoves Go.Proofs.Ytdgjelbkogfedaa.GConvexMoves
set_option linter.unusedVariables false
set_option linter.unusedSimpArgs false
def RL (G : Nat → Int) (n : Nat) : List Int := (List.range n).map G
theorem RL_len (G : Nat → Int) (n : Nat) : (RL G n).length = n := by simp [RL]
theorem RL_snoc (G : Nat → Int) (n : Nat) : RL G n ++ [G n] = RL G (n + 1) := by simp [RL, List.range_succ]
theorem RL_ext {G G' : Nat → Int} {n : Nat} (h : ∀ i, i < n → G i = G' i) : RL G n = RL G' n := by
  unfold RL
  exact List.map_congr_left (fun i hi => h i (List.mem_range.1 hi))
theorem SameInts_l0 (x : List Int) (hl : x.length ≤ 140737488351232) : ∀ n, n ≤ x.length → Evt (fun k => gridhallref3_SameInts.l0 k x x (x.length : Int) (n : Int)) true := by
  refine down ?_ ?_
  · refine Evt.succ ?_
    simp only [gridhallref3_SameInts.l0]
    exact Evt.ite_neg (by omega) (Evt.pure _)
  · intro n hn ih
    refine Evt.succ ?_
    simp only [gridhallref3_SameInts.l0]
    rw [wrap64_nat (n:=n) (by omega)]
    first
     |exact Evt.ite_pos (by omega) (Evt.ite_pos (by omega) (Evt.ite_pos (by omega) (Evt.ite_pos (by omega) (Evt.ite_pos (by simp) ih))))
     |exact Evt.ite_pos (by omega) (Evt.ite_pos (by omega) (Evt.ite_pos (by omega) (Evt.ite_pos (by omega) ih)))
theorem SameInts_ev (x : List Int) (hl : x.length ≤ 140737488351232) : Evt (fun k => gridhallref3_SameInts.f k x x) true := by
  simp only [gridhallref3_SameInts.f]
  first
   |exact Evt.ite_pos (by simp) (SameInts_l0 x hl 0 (by omega))
   |exact SameInts_l0 x hl 0 (by omega)
theorem sameValues_ev {a v : Int} {l : List Pc} (h : Cv a v l) {lo : Int} {x : List Int} (hlo : a = lo) (hx : x = FL a v l ((xs a l l.length - a).toNat + 1)) : Evt (fun k => gridhalllaw3_sameValues.f k a v l lo x) true := by
  subst hx
  have e:=ConvexError_ev a v l
  rw [Cv_err h] at e
  have hb:=(h.pre l.length (Nat.le_refl _)).1
  have ha:=(h.pre 0 (by omega)).1
  have ha0 : xs a l 0 = a:=rfl
  simp only [gridhalllaw3_sameValues.f]
  exact Evt.bind e (Evt.ite_pos rfl (Evt.ite_pos hlo (Evt.bind (Values_ev h) (Evt.bind (SameInts_ev _ (by rw [FL_len]; omega)) (Evt.pure _)))))
section
variable {a v : Int} {l : List Pc} (h : Cv a v l) (N : Nat) (hN : xs a l l.length = a + N)
include h hN
theorem N_bd : (N : Int) ≤ 2000000 ∧ -1000000 ≤ a ∧ a + N ≤ 1000000 := by
  have hb:=(h.pre l.length (Nat.le_refl _)).1
  have ha:=(h.pre 0 (by omega)).1
  have ha0 : xs a l 0 = a:=rfl
  omega
theorem law_l3 (x3 x4 x14 m0 m1 : Int) (m2 : List Pc) (h4 : okY x4) (h3 : -2000000 ≤ x3 ∧ x3 ≤ 2000000) (hM : x14 = 2 ∨ (x14 = 0 ∧ m0 = a + x3 ∧ m1 = v + x4 ∧ m2 = l ∧ Cv (a + x3) (v + x4) l)) :
    ∀ i, i ≤ N + 1 → Evt (fun k => gridhalllaw3_ConvexMoves.l3 k x3 x4 x14 (RL (fun j => F a v l j + x4) i) (FL a v l (N + 1)) ((N + 1 : Nat) : Int) (i : Int) a v l m0 m1 m2) true:=by
  obtain ⟨n1, n2, n3⟩:=N_bd h N hN
  have ⟨h41, h42⟩:=h4
  refine down ?_ ?_
  · refine Evt.succ ?_
    simp only [gridhalllaw3_ConvexMoves.l3]
    refine Evt.ite_neg (by omega) ?_
    rcases hM with rfl|⟨rfl, rfl, rfl, rfl, hc⟩
    · exact Evt.ite_pos rfl (Evt.pure _)
    · refine Evt.ite_neg (by omega) (Evt.ite_pos rfl (Evt.bind (sameValues_ev hc ?_ ?_) (Evt.pure _)))
      · rw [wrap64_of (by omega) (by omega)]
      · rw [moved_xs, hN, show (a + N + x3 - (a + x3)).toNat + 1 = N + 1 by omega]
        refine RL_ext (fun i _ => ?_)
        unfold F
        rw [show a + x3 + (i : Int) = a + (i : Int) + x3 by omega, moved_fv]
  · intro i hi ih
    refine Evt.succ ?_
    simp only [gridhalllaw3_ConvexMoves.l3, FL_len, RL_len]
    have hb:=F_bd h i
    rw [wrap64_nat (n:=i) (by omega), FL_get a v l (show i < N + 1 by omega), wrap64_of (x:=F a v l i + x4) (by omega) (by omega), RL_snoc (fun j => F a v l j + x4) i]
    exact Evt.ite_pos (by omega) (Evt.ite_pos (by omega) (Evt.ite_pos (by omega) (Evt.ite_pos (by omega) ih)))
theorem law_j5 (x3 x4 x14 m0 m1 : Int) (m2 : List Pc) (hM : (m0, m1, m2, x14) = moveR a v l x3 x4) (b : Bool) (hb : b = false) :
    Evt (fun k => gridhalllaw3_ConvexMoves.j5 k x3 x4 x14 (FL a v l (N + 1)) b a v l m0 m1 m2) true:=by
  subst hb
  have bad : ¬ ((-2000000 ≤ x3 ∧ x3 ≤ 2000000) ∧ okY x4) → ∀ b, b = true → Evt (fun k => gridhalllaw3_ConvexMoves.j6 k x3 x4 x14 (FL a v l (N + 1)) b a v l m0 m1 m2) true:=by
    intro c b hb
    subst hb
    unfold moveR at hM
    rw [if_neg c] at hM
    simp only [Prod.mk.injEq] at hM
    obtain ⟨_, _, _, rfl⟩:=hM
    refine Evt.succ ?_
    simp only [gridhalllaw3_ConvexMoves.j6]
    first
     |exact Evt.ite_pos (by simp) (Evt.of_eq (by simp))
     |exact Evt.of_eq (by simp)
  have good : ((-2000000 ≤ x3 ∧ x3 ≤ 2000000) ∧ okY x4) → ∀ b, b = false → Evt (fun k => gridhalllaw3_ConvexMoves.j6 k x3 x4 x14 (FL a v l (N + 1)) b a v l m0 m1 m2) true:=by
    intro c b hb
    subst hb
    unfold moveR at hM
    rw [if_pos c] at hM
    refine Evt.succ ?_
    simp only [gridhalllaw3_ConvexMoves.j6, FL_len]
    refine Evt.ite_neg (by simp) ?_
    have:=law_l3 h N hN x3 x4 x14 m0 m1 m2 c.2 c.1 (by
      by_cases e : cvErr (a + x3) (v + x4) l = 0
      · rw [if_pos e] at hM
        simp only [Prod.mk.injEq] at hM
        obtain ⟨e1, e2, e3, e4⟩:=hM
        exact Or.inr ⟨e4, e1, e2, e3, cvErr_ok e⟩
      · rw [if_neg e] at hM
        simp only [Prod.mk.injEq] at hM
        exact Or.inl hM.2.2.2) 0 (by omega)
    exact this
  refine Evt.succ ?_
  simp only [gridhalllaw3_ConvexMoves.j5, in_eq, Option.bind_some]
  refine Evt.ite_neg (by simp) ?_
  by_cases c1 : -2000000 ≤ x3 ∧ x3 ≤ 2000000
  · refine Evt.ite_pos (decide_eq_true c1) ?_
    by_cases c2 : okY x4
    · exact good ⟨c1, c2⟩ _ (by rw [decide_eq_true (show -1000000000000000 ≤ x4 ∧ x4 ≤ 1000000000000000 from c2)]; rfl)
    · exact bad (fun c => c2 c.2) _ (by rw [decide_eq_false (show ¬ (-1000000000000000 ≤ x4 ∧ x4 ≤ 1000000000000000) from c2)]; rfl)
  · exact Evt.ite_neg (by simpa using c1) (bad (fun c => c1 c.1) _ rfl)
theorem law_l2 (x3 x4 x14 m0 m1 : Int) (m2 : List Pc) (hM : (m0, m1, m2, x14) = moveR a v l x3 x4) (t : List Pc) (ht : t.length = l.length) (hp : ∀ n, n < l.length → ln t n = ln l (l.length - 1 - n) ∧ sl t n = -(sl l (l.length - 1 - n))) :
    ∀ i, i ≤ N + 1 → Evt (fun k => gridhalllaw3_ConvexMoves.l2 k x3 x4 x14 0 (FL a v l (N + 1)) (RL (fun j => F a v l (N - j)) i) ((N + 1 : Nat) : Int) (i : Int) a v l m0 m1 m2 (-(xs a l l.length)) (ys v l l.length) t) true:=by
  obtain ⟨n1, n2, n3⟩:=N_bd h N hN
  have hcv:=turned_cv h ht hp
  refine down ?_ ?_
  · refine Evt.succ ?_
    simp only [gridhalllaw3_ConvexMoves.l2, FL_len]
    have e : xs (-(xs a l l.length)) t t.length = -a:=by
      rw [ht]
      have:=(turned_xs (a:=a) (v:=v) ht hp l.length (Nat.le_refl _)).1
      rw [this, Nat.sub_self]
      rfl
    refine Evt.ite_neg (by omega) (Evt.ite_pos (by simp) (Evt.bind (sameValues_ev hcv ?_ ?_) ?_))
    · rw [hN, wrap64_of (x:=1 - a) (by omega) (by omega), wrap64_of (by omega) (by omega)]
      omega
    · rw [e, hN, show (-a - -(a + (N : Int))).toNat + 1 = N + 1 by omega, ← hN]
      refine RL_ext (fun i hi => ?_)
      have:=turned_val h ht hp (x:=xs a l l.length - i) (by omega) (by omega)
      unfold F
      rw [show -(xs a l l.length) + (i : Int) = -(xs a l l.length - (i : Int)) by omega, this]
      congr 1
      omega
    · exact law_j5 h N hN x3 x4 x14 m0 m1 m2 hM _ (by simp)
  · intro i hi ih
    refine Evt.succ ?_
    simp only [gridhalllaw3_ConvexMoves.l2, FL_len, RL_len]
    have e1 : wrap64 (wrap64 (((N + 1 : Nat) : Int) - 1) - (i : Int)) = ((N - i : Nat) : Int):=by
      rw [wrap64_of (x:=((N + 1 : Nat) : Int) - 1) (by omega) (by omega), wrap64_of (by omega) (by omega)]
      omega
    rw [e1, wrap64_nat (n:=i) (by omega), FL_get a v l (show N - i < N + 1 by omega), RL_snoc (fun j => F a v l (N - j)) i]
    exact Evt.ite_pos (by omega) (Evt.ite_pos (by omega) (Evt.ite_pos (by omega) (Evt.ite_pos (by omega) ih)))
theorem law_j3 (x3 x4 x14 m0 m1 : Int) (m2 : List Pc) (hM : (m0, m1, m2, x14) = moveR a v l x3 x4) (t : List Pc) (ht : t.length = l.length) (hp : ∀ n, n < l.length → ln t n = ln l (l.length - 1 - n) ∧ sl t n = -(sl l (l.length - 1 - n))) :
    Evt (fun k => gridhalllaw3_ConvexMoves.j3 k x3 x4 x14 0 (FL a v l (N + 1)) [] a v l m0 m1 m2 (-(xs a l l.length)) (ys v l l.length) t) true:=by
  refine Evt.succ ?_
  simp only [gridhalllaw3_ConvexMoves.j3, FL_len]
  have:=law_l2 h N hN x3 x4 x14 m0 m1 m2 hM t ht hp 0 (by omega)
  exact this
theorem law_l1 (x y x3 x4 x14 m0 m1 : Int) (m2 : List Pc) (hM : (m0, m1, m2, x14) = moveR a v l x3 x4) (t : List Pc) (ht : t.length = l.length) (hp : ∀ n, n < l.length → ln t n = ln l (l.length - 1 - n) ∧ sl t n = -(sl l (l.length - 1 - n)))
    (R : Int × Int × List Pc × Int) (hR : if mx x a > mn y (xs a l l.length) then R.2.2.2 = 8 else ∃ r, R = (mx x a, fv a v l (mx x a) l.length, r, 0) ∧ Sub a v l (mx x a) r ∧ Cv (mx x a) (fv a v l (mx x a) l.length) r ∧ xs (mx x a) r r.length = mn y (xs a l l.length)) :
    Evt (fun k => gridhalllaw3_ConvexMoves.l1 k y x3 x4 R.2.2.2 x14 0 (FL a v l (N + 1)) [] (mx x a) (mx x a) a v l R.1 R.2.1 R.2.2.1 m0 m1 m2 (-(xs a l l.length)) (ys v l l.length) t) true:=by
  obtain ⟨n1, n2, n3⟩:=N_bd h N hN
  have ew : wrap64 (a + ((N + 1 : Nat) : Int)) = a + N + 1:=by
    rw [wrap64_of (by omega) (by omega)]
    omega
  have j3:=law_j3 h N hN x3 x4 x14 m0 m1 m2 hM t ht hp
  by_cases c : mx x a > mn y (xs a l l.length)
  · rw [if_pos c] at hR
    have j2 : Evt (fun k => gridhalllaw3_ConvexMoves.j2 k x3 x4 R.2.2.2 x14 0 (FL a v l (N + 1)) [] [] (mx x a) a v l R.1 R.2.1 R.2.2.1 m0 m1 m2 (-(xs a l l.length)) (ys v l l.length) t) true:=by
      refine Evt.succ ?_
      simp only [gridhalllaw3_ConvexMoves.j2]
      first
       |exact Evt.ite_pos (by simp) (Evt.ite_pos hR j3)
       |exact Evt.ite_pos hR j3
    refine Evt.succ ?_
    simp only [gridhalllaw3_ConvexMoves.l1, FL_len]
    rw [ew]
    by_cases c1 : mx x a ≤ y
    · refine Evt.ite_pos c1 (Evt.ite_neg ?_ j2)
      rw [hN] at c
      revert c
      unfold mn
      split <;> omega
    · exact Evt.ite_neg c1 j2
  · rw [if_neg c] at hR
    obtain ⟨r, rfl, hs, hc, hx⟩:=hR
    obtain ⟨lo, elo⟩ : ∃ lo, lo = mx x a:=⟨_, rfl⟩
    obtain ⟨hi, ehi⟩ : ∃ hi, hi = mn y (xs a l l.length):=⟨_, rfl⟩
    have b1 : a ≤ lo:=by rw [elo]; unfold mx; split <;> omega
    have b2 : hi ≤ y ∧ hi ≤ a + N ∧ (hi = y ∨ hi = a + N):=by rw [ehi, hN]; unfold mn; split <;> omega
    rw [← elo, ← ehi] at c hx
    rw [← elo] at hs hc ⊢
    obtain ⟨D, hD⟩ : ∃ D : Nat, lo = a + D:=⟨(lo - a).toNat, by omega⟩
    obtain ⟨C, hC⟩ : ∃ C : Nat, hi = lo + C:=⟨(hi - lo).toNat, by omega⟩
    have j2 : Evt (fun k => gridhalllaw3_ConvexMoves.j2 k x3 x4 0 x14 0 (FL a v l (N + 1)) (RL (fun j => F a v l (D + j)) (C + 1)) [] lo a v l lo (fv a v l lo l.length) r m0 m1 m2 (-(xs a l l.length)) (ys v l l.length) t) true:=by
      refine Evt.succ ?_
      simp only [gridhalllaw3_ConvexMoves.j2, RL_len]
      refine Evt.ite_neg (by omega) (Evt.ite_pos (by simp) (Evt.bind (sameValues_ev hc rfl ?_) (Evt.ite_pos rfl j3)))
      rw [hx, show (hi - lo).toNat + 1 = C + 1 by omega]
      refine RL_ext (fun i hi => ?_)
      have:=Sub.val h hs hc (x:=lo + i) (by omega) (by omega)
      show F a v l (D + i) = fv lo (fv a v l lo l.length) r (lo + i) r.length
      rw [this]
      unfold F
      congr 1
      omega
    have loop : ∀ i, i ≤ C + 1 → Evt (fun k => gridhalllaw3_ConvexMoves.l1 k y x3 x4 0 x14 0 (FL a v l (N + 1)) (RL (fun j => F a v l (D + j)) i) lo (lo + (i : Int)) a v l lo (fv a v l lo l.length) r m0 m1 m2 (-(xs a l l.length)) (ys v l l.length) t) true:=by
      refine down ?_ ?_
      · refine Evt.succ ?_
        simp only [gridhalllaw3_ConvexMoves.l1, FL_len]
        rw [ew]
        exact Evt.ite (fun g1 => Evt.ite_neg (by omega) j2) (fun _ => j2)
      · intro i hi ih
        refine Evt.succ ?_
        simp only [gridhalllaw3_ConvexMoves.l1, FL_len, RL_len]
        rw [ew, show wrap64 (lo + (i : Int) - a) = ((D + i : Nat) : Int) by rw [wrap64_of (by omega) (by omega)]; omega, FL_get a v l (show D + i < N + 1 by omega), RL_snoc (fun j => F a v l (D + j)) i, wrap64_of (x:=lo + (i : Int) + 1) (by omega) (by omega), show lo + (i : Int) + 1 = lo + ((i + 1 : Nat) : Int) by omega]
        exact Evt.ite_pos (by omega) (Evt.ite_pos (by omega) (Evt.ite_pos (by omega) (Evt.ite_pos (by omega) (Evt.ite_pos (by omega) ih))))
    have:=loop 0 (by omega)
    rw [show lo + ((0 : Nat) : Int) = lo by omega] at this
    exact this
theorem law_l0 (x y x3 x4 x14 m0 m1 : Int) (m2 : List Pc) (hM : (m0, m1, m2, x14) = moveR a v l x3 x4) (t : List Pc) (ht : t.length = l.length) (hp : ∀ n, n < l.length → ln t n = ln l (l.length - 1 - n) ∧ sl t n = -(sl l (l.length - 1 - n)))
    (R : Int × Int × List Pc × Int) (hR : if mx x a > mn y (xs a l l.length) then R.2.2.2 = 8 else ∃ r, R = (mx x a, fv a v l (mx x a) l.length, r, 0) ∧ Sub a v l (mx x a) r ∧ Cv (mx x a) (fv a v l (mx x a) l.length) r ∧ xs (mx x a) r r.length = mn y (xs a l l.length)) :
    ∀ n, n ≤ l.length → Evt (fun k => gridhalllaw3_ConvexMoves.l0 k x y x3 x4 R.2.2.2 x14 0 (xs a l n - a) l (l.length : Int) (n : Int) a v l R.1 R.2.1 R.2.2.1 m0 m1 m2 (-(xs a l l.length)) (ys v l l.length) t) true:=by
  obtain ⟨n1, n2, n3⟩:=N_bd h N hN
  have hl:=h.len
  refine down ?_ ?_
  · refine Evt.succ ?_
    simp only [gridhalllaw3_ConvexMoves.l0]
    refine Evt.ite_neg (by omega) (Evt.ite (fun _ => Evt.pure _) (fun _ => Evt.bind (Values_ev h) ?_))
    rw [show (xs a l l.length - a).toNat + 1 = N + 1 by omega]
    exact law_l1 h N hN x y x3 x4 x14 m0 m1 m2 hM t ht hp R hR
  · intro n hn ih
    refine Evt.succ ?_
    simp only [gridhalllaw3_ConvexMoves.l0, rdc0, rdc1]
    have hb:=(h.pre n (by omega)).1
    have hb1:=(h.pre (n + 1) (by omega)).1
    have ex : xs a l (n + 1) = xs a l n + ln l n:=rfl
    rw [show wrap64 (xs a l n - a + ln l n) = xs a l (n + 1) - a by rw [wrap64_of (by omega) (by omega)]; omega, wrap64_nat (n:=n) (by omega)]
    exact Evt.ite_pos (by omega) (Evt.ite_pos (by omega) (Evt.ite_pos (by omega) ih))
end
theorem slopes_ev : Evt (fun k => gridhalllaw3_slopes.f k) true := by
  simp only [gridhalllaw3_slopes.f, gridhalllaw3_rises.f, Option.bind_some]
  refine Evt.bind (At_ev _ _ _ _) ?_
  have e : atR 0 0 [(⟨10, 5⟩ : Pc), ⟨10, 8⟩] 12 = (66, 0):=by decide +kernel
  rw [e]
  exact Evt.ite_pos rfl (Evt.pure _)
theorem bad_ev {a v : Int} {l : List Pc} (h : cvErr a v l ≠ 0) (x y x3 x4 : Int) : Evt (fun k => convexpl_Restrict.f k a v l x y) (0, 0, [], cvErr a v l) ∧ Evt (fun k => convexpl_Move.f k a v l x3 x4) (0, 0, [], cvErr a v l) ∧ Evt (fun k => convexpl_Turn.f k a v l) (0, 0, [], cvErr a v l) := by
  simp only [convexpl_Restrict.f, convexpl_Move.f, convexpl_Turn.f]
  exact ⟨Evt.bind (CCheck_ev a v l) (Evt.ite_neg h (Evt.pure _)), Evt.bind (CCheck_ev a v l) (Evt.ite_neg h (Evt.pure _)), Evt.bind (CCheck_ev a v l) (Evt.ite_neg h (Evt.pure _))⟩
theorem law_f (a v : Int) (l : List Pc) (x y x3 x4 : Int) : Evt (fun k => gridhalllaw3_ConvexMoves.f k a v l x y x3 x4) true := by
  simp only [gridhalllaw3_ConvexMoves.f]
  refine Evt.bind slopes_ev (Evt.ite_pos rfl ?_)
  by_cases h : cvErr a v l = 0
  · have hv:=cvErr_ok h
    obtain ⟨R, r1, r2⟩:=Restrict_ev hv x y
    obtain ⟨t, t1, t2, t3⟩:=Turn_ev hv
    have hb:=xs_mono hv (i:=0) (j:=l.length) (by omega) (Nat.le_refl _)
    have ha0 : xs a l 0 = a:=rfl
    have:=law_l0 hv (xs a l l.length - a).toNat (by omega) x y x3 x4 (moveR a v l x3 x4).2.2.2 (moveR a v l x3 x4).1 (moveR a v l x3 x4).2.1 (moveR a v l x3 x4).2.2.1 rfl t t1 t2 R r2 0 (by omega)
    rw [ha0, Int.sub_self] at this
    exact Evt.bind r1 (Evt.bind (Move_ev hv x3 x4) (Evt.bind t3 (Evt.bind (ConvexError_ev a v l) (Evt.ite_pos h this))))
  · obtain ⟨b1, b2, b3⟩:=bad_ev h x y x3 x4
    exact Evt.bind b1 (Evt.bind b2 (Evt.bind b3 (Evt.bind (ConvexError_ev a v l) (Evt.ite_neg h (Evt.ite_pos rfl (Evt.ite_pos rfl (Evt.of_eq (by simp))))))))
end Go.Proofs.Ytdgjelbkogfedaa.IConvexMoves
