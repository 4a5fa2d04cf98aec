import Derived.Test.YtdgjelbkogfedaaGConvexSums
namespace Go.Proofs.Ytdgjelbkogfedaa.IConvexSums
open Go.RowKit Go.Proofs.YtdgjelbkogfedaaW.PrintWords Go.Proofs.YtdgjelbkogfedaaW.PrintMore Go.Proofs.Ytdgjelbkogfedaa.Evs Go.Proofs.Ytdgjelbkogfedaa.PConvexSums Go.Proofs.Ytdgjelbkogfedaa.CConvexSums Go.Proofs.Ytdgjelbkogfedaa.DConvexSums Go.Proofs.Ytdgjelbkogfedaa.ZConvexSums Go.Proofs.Ytdgjelbkogfedaa.XConvexSums Go.Proofs.Ytdgjelbkogfedaa.EConvexSums Go.Proofs.Ytdgjelbkogfedaa.GConvexSums
set_option linter.unusedVariables false
set_option linter.unusedSectionVars false
set_option linter.unusedSimpArgs false
section
variable {a v : Int} {l : List Pc} {a' v' : Int} {l' : List Pc} (h : Cv a v l) (h' : Cv a' v' l') (N N' : Nat) (hN : xs a l l.length = a + N) (hN' : xs a' l' l'.length = a' + N') (W : Nat → Int) (hW : Least2 (F a v l) (F a' v' l') W N N') (c0 c1 x8 : Int) (c2 : List Pc)
include h h' hN hN' hW
theorem W_bd (k : Nat) (hk : k ≤ N + N') : -6000000000000000 ≤ W k ∧ W k ≤ 6000000000000000 := by
  obtain ⟨i, j, e1, e2, e3, e4⟩:=hW.some k hk
  have:=F_bd h i
  have:=F_bd h' j
  omega
def LInv (F1 F2 : Nat → Int) (N' k i : Nat) (c : Int) (b : Bool) : Prop := (b = true → ∀ m, m < i → m ≤ k → N' < k - m) ∧ (b = false → (∃ m, m < i ∧ m ≤ k ∧ k - m ≤ N' ∧ c = F1 m + F2 (k - m)) ∧ ∀ m, m < i → m ≤ k → k - m ≤ N' → c ≤ F1 m + F2 (k - m))
theorem conv_l3 (k : Nat) (hk : k < N + N' + 1) (L : List Int) (hL : L.length = N + N' + 1)
    (next : ∀ L' : List Int, L'.length = N + N' + 1 → (∀ m, m ≠ k → L'.getD m 0 = L.getD m 0) → L'.getD k 0 = W k → Evt (fun q => gridhalllaw3_ConvexSums.l2 q x8 (FL a v l (N + 1)) (FL a' v' l' (N' + 1)) L' ((N + N' + 1 : Nat) : Int) ((k + 1 : Nat) : Int) a v l a' v' l' c0 c1 c2) true) :
    ∀ d i (L' : List Int) (b : Bool), i + d = N + 1 → L'.length = N + N' + 1 → (∀ m, m ≠ k → L'.getD m 0 = L.getD m 0) → LInv (F a v l) (F a' v' l') N' k i (L'.getD k 0) b →
      Evt (fun q => gridhalllaw3_ConvexSums.l3 q x8 (FL a v l (N + 1)) (FL a' v' l' (N' + 1)) L' (k : Int) b ((N + N' + 1 : Nat) : Int) (k : Int) (FL a v l (N + 1)) ((N + 1 : Nat) : Int) (i : Int) a v l a' v' l' c0 c1 c2) true:=by
  obtain ⟨n1, n2, n3⟩:=N_bd h N hN
  obtain ⟨m1, m2, m3⟩:=N_bd h' N' hN'
  intro d
  induction d with
 |zero =>
    intro i L' b hi hl ho hv
    obtain rfl : i = N + 1:=by omega
    have hlast : L'.getD k 0 = W k:=by
      obtain ⟨p, q, e1, e2, e3, e4⟩:=hW.some k (by omega)
      cases b with
     |true =>
        have:=hv.1 rfl p (by omega) (by omega)
        omega
     |false =>
        obtain ⟨⟨m, q1, q2, q3, q4⟩, q5⟩:=hv.2 rfl
        have g1:=q5 p (by omega) (by omega) (by omega)
        have g2:=hW.le m (k - m) (by omega) q3
        rw [show k - p = q by omega] at g1
        rw [show m + (k - m) = k by omega] at g2
        omega
    have:=next L' hl ho hlast
    refine Evt.succ ?_
    simp only [gridhalllaw3_ConvexSums.l3]
    rw [wrap64_nat (n:=k) (by omega)]
    exact Evt.ite_neg (by omega) this
 |succ d ih =>
    intro i L' b hi hl ho hv
    refine Evt.succ ?_
    simp only [gridhalllaw3_ConvexSums.l3, FL_len]
    rw [wrap64_nat (n:=i) (by omega), wrap64_of (x:=(k : Int) - (i : Int)) (by omega) (by omega)]
    refine Evt.ite_pos (by omega) (Evt.ite_pos (by omega) (Evt.ite_pos (by omega) ?_))
    have skip : (k < i ∨ N' < k - i) → Evt (fun q => gridhalllaw3_ConvexSums.l3 q x8 (FL a v l (N + 1)) (FL a' v' l' (N' + 1)) L' (k : Int) b ((N + N' + 1 : Nat) : Int) (k : Int) (FL a v l (N + 1)) ((N + 1 : Nat) : Int) ((i + 1 : Nat) : Int) a v l a' v' l' c0 c1 c2) true:=by
      intro hs
      refine ih (i + 1) L' b (by omega) hl ho ⟨fun e m h1 h2 => ?_, fun e => ?_⟩
      · by_cases em : m = i
        · omega
        · exact hv.1 e m (by omega) h2
      · obtain ⟨⟨m, q1, q2, q3, q4⟩, q5⟩:=hv.2 e
        refine ⟨⟨m, by omega, q2, q3, q4⟩, fun m h1 h2 h3 => ?_⟩
        by_cases em : m = i
        · omega
        · exact q5 m (by omega) h2 h3
    by_cases c : i ≤ k
    · have ej : (k : Int) - (i : Int) = ((k - i : Nat) : Int):=by omega
      rw [ej]
      refine Evt.ite_pos (by omega) ?_
      by_cases c3 : k - i ≤ N'
      · refine Evt.ite_pos (by omega) ?_
        rw [FL_get a v l (show i < N + 1 by omega), FL_get a' v' l' (show k - i < N' + 1 by omega)]
        have b1:=F_bd h i
        have b2:=F_bd h' (k - i)
        rw [wrap64_of (x:=F a v l i + F a' v' l' (k - i)) (by omega) (by omega)]
        have setk : ∀ x : Int, (L'.set ((k : Int)).toNat x).getD k 0 = x:=by
          intro x
          rw [Int.toNat_natCast, List.getD_eq_getElem?_getD, List.getElem?_set_self (by omega)]
          rfl
        have seto : ∀ (x : Int) m, m ≠ k → (L'.set ((k : Int)).toNat x).getD m 0 = L.getD m 0:=by
          intro x m hm
          rw [Int.toNat_natCast, List.getD_eq_getElem?_getD, List.getElem?_set_ne (by omega), ← List.getD_eq_getElem?_getD]
          exact ho m hm
        have rdk : rd L' (k : Int) = L'.getD k 0:=by
          unfold rd
          rw [Int.toNat_natCast]
        cases b with
       |true =>
          refine Evt.ite_pos rfl (Evt.ite_pos (by omega) (Evt.ite_pos (by omega) (Evt.ite_pos (by omega) ?_)))
          refine ih (i + 1) _ false (by omega) (by rw [List.length_set]; exact hl) (seto _) ⟨fun e => (by cases e), fun _ => ?_⟩
          rw [setk]
          refine ⟨⟨i, by omega, c, c3, rfl⟩, fun m h1 h2 h3 => ?_⟩
          by_cases em : m = i
          · subst em
            exact Int.le_refl _
          · have:=hv.1 rfl m (by omega) h2
            omega
       |false =>
          obtain ⟨⟨m, q1, q2, q3, q4⟩, q5⟩:=hv.2 rfl
          rw [rdk]
          refine Evt.ite_neg (by simp) (Evt.ite_pos (by omega) (Evt.ite_pos (by omega) (Evt.ite_pos (by omega) (Evt.ite (fun g => ?_) (fun g => ?_)))))
          · refine ih (i + 1) _ false (by omega) (by rw [List.length_set]; exact hl) (seto _) ⟨fun e => (by cases e), fun _ => ?_⟩
            rw [setk]
            refine ⟨⟨i, by omega, c, c3, rfl⟩, fun m h1 h2 h3 => ?_⟩
            by_cases em : m = i
            · subst em
              exact Int.le_refl _
            · have:=q5 m (by omega) h2 h3
              omega
          · refine ih (i + 1) L' false (by omega) hl ho ⟨fun e => (by cases e), fun _ => ?_⟩
            refine ⟨⟨m, by omega, q2, q3, q4⟩, fun m h1 h2 h3 => ?_⟩
            by_cases em : m = i
            · subst em
              omega
            · exact q5 m (by omega) h2 h3
      · exact Evt.ite_neg (by omega) (skip (Or.inr (by omega)))
    · exact Evt.ite_neg (by omega) (skip (Or.inl (by omega)))
theorem conv_l2 (hC : x8 = 2 ∨ (x8 = 0 ∧ c0 = a + a' ∧ Cv c0 c1 c2 ∧ xs c0 c2 c2.length = c0 + ((N + N' : Nat) : Int) ∧ ∀ k, k ≤ N + N' → F c0 c1 c2 k = W k)) :
    ∀ d k (L : List Int), k + d = N + N' + 1 → L.length = N + N' + 1 → (∀ m, m < k → L.getD m 0 = W m) → Evt (fun q => gridhalllaw3_ConvexSums.l2 q x8 (FL a v l (N + 1)) (FL a' v' l' (N' + 1)) L ((N + N' + 1 : Nat) : Int) (k : Int) a v l a' v' l' c0 c1 c2) true:=by
  obtain ⟨n1, n2, n3⟩:=N_bd h N hN
  obtain ⟨m1, m2, m3⟩:=N_bd h' N' hN'
  intro d
  induction d with
 |zero =>
    intro k L hk hl hv
    obtain rfl : k = N + N' + 1:=by omega
    refine Evt.succ ?_
    simp only [gridhalllaw3_ConvexSums.l2]
    refine Evt.ite_neg (by omega) ?_
    rcases hC with rfl|⟨rfl, ea, hc, ex, ef⟩
    · exact Evt.ite_pos rfl (Evt.pure _)
    · rw [wrap64_of (x:=a + a') (by omega) (by omega)]
      refine Evt.ite_neg (by omega) (Evt.ite_pos rfl (Evt.bind (sameValues_ev hc ea ?_) (Evt.pure _)))
      rw [ex, show (c0 + ((N + N' : Nat) : Int) - c0).toNat + 1 = N + N' + 1 by omega]
      apply List.ext_getElem
      · rw [FL_len, hl]
      · intro i g1 g2
        have:=hv i (by omega)
        rw [List.getD_eq_getElem?_getD, List.getElem?_eq_getElem g1] at this
        simp only [Option.getD_some] at this
        rw [this]
        have e:=ef i (by omega)
        rw [← e]
        simp [FL]
 |succ d ih =>
    intro k L hk hl hv
    refine Evt.succ ?_
    simp only [gridhalllaw3_ConvexSums.l2, FL_len]
    refine Evt.ite_pos (by omega) ?_
    have:=conv_l3 h h' N N' hN hN' W hW c0 c1 x8 c2 k (by omega) L hl (fun L' g1 g2 g3 => ih (k + 1) L' (by omega) g1 (fun m hm => ?_)) (N + 1) 0 L true (by omega) hl (fun _ _ => rfl) ⟨fun _ m hm => by omega, fun e => (by cases e)⟩
    · exact this
    · by_cases em : m = k
      · subst em
        exact g3
      · rw [g2 m em]
        exact hv m (by omega)
theorem conv_j3 (hC : x8 = 2 ∨ (x8 = 0 ∧ c0 = a + a' ∧ Cv c0 c1 c2 ∧ xs c0 c2 c2.length = c0 + ((N + N' : Nat) : Int) ∧ ∀ k, k ≤ N + N' → F c0 c1 c2 k = W k)) :
    Evt (fun q => gridhalllaw3_ConvexSums.j3 q x8 (FL a v l (N + 1)) (FL a' v' l' (N' + 1)) a v l a' v' l' c0 c1 c2) true:=by
  obtain ⟨n1, n2, n3⟩:=N_bd h N hN
  obtain ⟨m1, m2, m3⟩:=N_bd h' N' hN'
  refine Evt.succ ?_
  simp only [gridhalllaw3_ConvexSums.j3, FL_len, Option.bind_some]
  rw [show wrap64 (wrap64 (((N + 1 : Nat) : Int) + ((N' + 1 : Nat) : Int)) - 1) = ((N + N' + 1 : Nat) : Int) by rw [wrap64_of (x:=((N + 1 : Nat) : Int) + ((N' + 1 : Nat) : Int)) (by omega) (by omega), wrap64_of (by omega) (by omega)]; omega]
  rw [Int.toNat_natCast, List.length_replicate]
  exact Evt.ite_pos (by omega) (Evt.ite_pos (by omega) (conv_l2 h h' N N' hN hN' W hW c0 c1 x8 c2 hC (N + N' + 1) 0 _ (by omega) (by simp) (fun m hm => by omega)))
theorem sums_l1 (hC : x8 = 2 ∨ (x8 = 0 ∧ c0 = a + a' ∧ Cv c0 c1 c2 ∧ xs c0 c2 c2.length = c0 + ((N + N' : Nat) : Int) ∧ ∀ k, k ≤ N + N' → F c0 c1 c2 k = W k))
    (lo hi b0 b1 x6 : Int) (b2 : List Pc) (elo : lo = mx a a') (ehi : hi = mn (xs a l l.length) (xs a' l' l'.length))
    (hA : if lo > hi then x6 = 8 else x6 = 2 ∨ (x6 = 0 ∧ b0 = lo ∧ Cv b0 b1 b2 ∧ xs b0 b2 b2.length = hi ∧ ∀ (i D D' : Nat), lo + i ≤ hi → lo = a + D → lo = a' + D' → F b0 b1 b2 i = F a v l (D + i) + F a' v' l' (D' + i))) :
    Evt (fun q => gridhalllaw3_ConvexSums.l1 q x6 x8 (FL a v l (N + 1)) (FL a' v' l' (N' + 1)) ([] : List Int) (mx a a') (mx a a') a v l a' v' l' b0 b1 b2 c0 c1 c2) true:=by
  obtain ⟨n1, n2, n3⟩:=N_bd h N hN
  obtain ⟨m1, m2, m3⟩:=N_bd h' N' hN'
  have j3:=conv_j3 h h' N N' hN hN' W hW c0 c1 x8 c2 hC
  rw [hN, hN'] at ehi
  have ew : wrap64 (mn (wrap64 (a + ((N + 1 : Nat) : Int))) (wrap64 (a' + ((N' + 1 : Nat) : Int))) - 1) = hi:=by
    rw [wrap64_of (x:=a + ((N + 1 : Nat) : Int)) (by omega) (by omega), wrap64_of (x:=a' + ((N' + 1 : Nat) : Int)) (by omega) (by omega), ehi]
    unfold mn wrap64
    split <;> split <;> omega
  have b1' : a ≤ lo ∧ a' ≤ lo:=by rw [elo]; unfold mx; split <;> omega
  have b2' : hi ≤ a + N ∧ hi ≤ a' + N':=by rw [ehi]; unfold mn; split <;> omega
  rw [← elo]
  by_cases c : lo > hi
  · rw [if_pos c] at hA
    refine Evt.succ ?_
    simp only [gridhalllaw3_ConvexSums.l1, FL_len]
    rw [ew]
    exact Evt.ite_neg (by omega) (Evt.ite_pos (by simp) (Evt.ite_pos hA j3))
  · rw [if_neg c] at hA
    obtain ⟨D, hD⟩ : ∃ D : Nat, lo = a + D:=⟨(lo - a).toNat, by omega⟩
    obtain ⟨D', hD'⟩ : ∃ D' : Nat, lo = a' + D':=⟨(lo - a').toNat, by omega⟩
    obtain ⟨C, hCC⟩ : ∃ C : Nat, hi = lo + C:=⟨(hi - lo).toNat, by omega⟩
    have loop : ∀ i, i ≤ C + 1 → Evt (fun q => gridhalllaw3_ConvexSums.l1 q x6 x8 (FL a v l (N + 1)) (FL a' v' l' (N' + 1)) (RL (fun j => F a v l (D + j) + F a' v' l' (D' + j)) i) lo (lo + (i : Int)) a v l a' v' l' b0 b1 b2 c0 c1 c2) true:=by
      refine down ?_ ?_
      · refine Evt.succ ?_
        simp only [gridhalllaw3_ConvexSums.l1, FL_len, RL_len]
        rw [ew]
        refine Evt.ite_neg (by omega) (Evt.ite_neg (by omega) ?_)
        rcases hA with rfl|⟨rfl, rfl, hb, ex, ef⟩
        · exact Evt.ite_pos rfl j3
        · refine Evt.ite_neg (by omega) (Evt.ite_pos rfl (Evt.bind (sameValues_ev hb rfl ?_) (Evt.ite_pos rfl j3)))
          rw [ex, show (hi - b0).toNat + 1 = C + 1 by omega]
          exact RL_ext (fun i hi => (ef i D D' (by omega) hD hD').symm)
      · intro i hi ih
        have g1:=F_bd h (D + i)
        have g2:=F_bd h' (D' + i)
        refine Evt.succ ?_
        simp only [gridhalllaw3_ConvexSums.l1, FL_len, RL_len]
        rw [ew, show wrap64 (lo + (i : Int) - a) = ((D + i : Nat) : Int) by rw [wrap64_of (by omega) (by omega)]; omega, show wrap64 (lo + (i : Int) - a') = ((D' + i : Nat) : Int) by rw [wrap64_of (by omega) (by omega)]; omega, FL_get a v l (show D + i < N + 1 by omega), FL_get a' v' l' (show D' + i < N' + 1 by omega), wrap64_of (x:=F a v l (D + i) + F a' v' l' (D' + i)) (by omega) (by omega), RL_snoc (fun j => F a v l (D + j) + F a' v' l' (D' + j)) i, wrap64_of (x:=lo + (i : Int) + 1) (by omega) (by omega), show lo + (i : Int) + 1 = lo + ((i + 1 : Nat) : Int) by omega]
        exact Evt.ite_pos (by omega) (Evt.ite_pos (by omega) (Evt.ite_pos (by omega) (Evt.ite_pos (by omega) (Evt.ite_pos (by omega) (Evt.ite_pos (by omega) ih)))))
    have:=loop 0 (by omega)
    rw [show lo + ((0 : Nat) : Int) = lo by omega] at this
    exact this
theorem sums_l0 (hC : x8 = 2 ∨ (x8 = 0 ∧ c0 = a + a' ∧ Cv c0 c1 c2 ∧ xs c0 c2 c2.length = c0 + ((N + N' : Nat) : Int) ∧ ∀ k, k ≤ N + N' → F c0 c1 c2 k = W k))
    (b0 b1 x6 : Int) (b2 : List Pc)
    (hA : if mx a a' > mn (xs a l l.length) (xs a' l' l'.length) then x6 = 8 else x6 = 2 ∨ (x6 = 0 ∧ b0 = mx a a' ∧ Cv b0 b1 b2 ∧ xs b0 b2 b2.length = mn (xs a l l.length) (xs a' l' l'.length) ∧ ∀ (i D D' : Nat), mx a a' + i ≤ mn (xs a l l.length) (xs a' l' l'.length) → mx a a' = a + D → mx a a' = a' + D' → F b0 b1 b2 i = F a v l (D + i) + F a' v' l' (D' + i)))
    (L : List Pc) (hL : L.length ≤ 128) (oL : okL L) : ∀ n, n ≤ L.length → Evt (fun q => gridhalllaw3_ConvexSums.l0 q x6 x8 (xs 0 L n) L (L.length : Int) (n : Int) a v l a' v' l' b0 b1 b2 c0 c1 c2) true:=by
  obtain ⟨n1, n2, n3⟩:=N_bd h N hN
  obtain ⟨m1, m2, m3⟩:=N_bd h' N' hN'
  have hx : ∀ n, n ≤ L.length → 0 ≤ xs 0 L n ∧ xs 0 L n ≤ 2000000 * (n : Int):=by
    intro n
    induction n with
   |zero => intro _; simp [xs]
   |succ n ih =>
      intro hn
      have:=ih (by omega)
      have:=oL n (by omega)
      simp only [xs]
      omega
  refine down ?_ ?_
  · refine Evt.succ ?_
    simp only [gridhalllaw3_ConvexSums.l0]
    have e1:=Values_ev h
    have e2:=Values_ev h'
    rw [hN, show (a + (N : Int) - a).toNat + 1 = N + 1 by omega] at e1
    rw [hN', show (a' + (N' : Int) - a').toNat + 1 = N' + 1 by omega] at e2
    exact Evt.ite_neg (by omega) (Evt.ite (fun _ => Evt.pure _) (fun _ => Evt.bind e1 (Evt.bind e2 (sums_l1 h h' N N' hN hN' W hW c0 c1 x8 c2 hC _ _ b0 b1 x6 b2 rfl rfl hA))))
  · intro n hn ih
    refine Evt.succ ?_
    simp only [gridhalllaw3_ConvexSums.l0, rdc0]
    have h1:=hx (n + 1) (by omega)
    have ex : xs 0 L (n + 1) = xs 0 L n + ln L n:=rfl
    rw [← ex, wrap64_of (x:=xs 0 L (n + 1)) (by omega) (by omega), wrap64_nat (n:=n) (by omega)]
    exact Evt.ite_pos (by omega) (Evt.ite_pos (by omega) (Evt.ite_pos (by omega) ih))
end
theorem csum_bad (a v : Int) (l : List Pc) (a' v' : Int) (l' : List Pc) (e : Int) (he : e ≠ 0) (hb : (if cvErr a v l = 0 then cvErr a' v' l' else cvErr a v l) = e) : Evt (fun k => convexpl_Add.f k a v l a' v' l') (0, 0, [], e) ∧ Evt (fun k => convexpl_Convolve.f k a v l a' v' l') (0, 0, [], e) := by
  have:=both_ev a v l a' v' l'
  rw [hb] at this
  simp only [convexpl_Add.f, convexpl_Convolve.f]
  exact ⟨Evt.bind this (Evt.ite_neg he (Evt.pure _)), Evt.bind this (Evt.ite_neg he (Evt.pure _))⟩
theorem law_f (a v : Int) (l : List Pc) (a' v' : Int) (l' : List Pc) : Evt (fun k => gridhalllaw3_ConvexSums.f k a v l a' v' l') true := by
  simp only [gridhalllaw3_ConvexSums.f]
  refine Evt.bind slopes_ev (Evt.ite_pos rfl ?_)
  have bad : ∀ e, e ≠ 0 → Evt (fun k => gridhalllaw3_ConvexSums.j0 k e e e a v l a' v' l' 0 0 [] 0 0 []) true:=by
    intro e he
    refine Evt.succ ?_
    simp only [gridhalllaw3_ConvexSums.j0]
    exact Evt.ite_neg he (Evt.ite_pos (by simp) (Evt.ite_pos (by simp) (Evt.of_eq (by simp [wrap64]))))
  by_cases e1 : cvErr a v l = 0
  · by_cases e2 : cvErr a' v' l' = 0
    · have h:=cvErr_ok e1
      have h':=cvErr_ok e2
      have hb:=xs_mono h (i:=0) (j:=l.length) (by omega) (Nat.le_refl _)
      have hb':=xs_mono h' (i:=0) (j:=l'.length) (by omega) (Nat.le_refl _)
      have ha0 : xs a l 0 = a:=rfl
      have ha0' : xs a' l' 0 = a':=rfl
      obtain ⟨N, hN⟩ : ∃ N : Nat, xs a l l.length = a + N:=⟨(xs a l l.length - a).toNat, by omega⟩
      obtain ⟨N', hN'⟩ : ∃ N' : Nat, xs a' l' l'.length = a' + N':=⟨(xs a' l' l'.length - a').toNat, by omega⟩
      obtain ⟨r, W, r1, r2, r3⟩:=Convolve_ev h h' hN hN'
      have A:=Add_ev h h' (lo:=mx a a') (hi:=mn (xs a l l.length) (xs a' l' l'.length)) rfl rfl
      have oL : okL (l ++ l'):=okL_mem.2 (fun p hp => by
        rcases List.mem_append.1 hp with hp|hp
        · exact okL_mem.1 (okL_cv h) p hp
        · exact okL_mem.1 (okL_cv h') p hp)
      have lL : (l ++ l').length ≤ 128:=by
        have:=h.len
        have:=h'.len
        simp
        omega
      have rest : ∀ (b0 b1 x6 : Int) (b2 : List Pc) (c0 c1 x8 : Int) (c2 : List Pc),
          (x8 = 2 ∨ (x8 = 0 ∧ c0 = a + a' ∧ Cv c0 c1 c2 ∧ xs c0 c2 c2.length = c0 + ((N + N' : Nat) : Int) ∧ ∀ k, k ≤ N + N' → F c0 c1 c2 k = W k)) →
          (if mx a a' > mn (xs a l l.length) (xs a' l' l'.length) then x6 = 8 else x6 = 2 ∨ (x6 = 0 ∧ b0 = mx a a' ∧ Cv b0 b1 b2 ∧ xs b0 b2 b2.length = mn (xs a l l.length) (xs a' l' l'.length) ∧ ∀ (i D D' : Nat), mx a a' + i ≤ mn (xs a l l.length) (xs a' l' l'.length) → mx a a' = a + D → mx a a' = a' + D' → F b0 b1 b2 i = F a v l (D + i) + F a' v' l' (D' + i))) →
          Evt (fun k => gridhalllaw3_ConvexSums.j0 k x6 x8 0 a v l a' v' l' b0 b1 b2 c0 c1 c2) true:=by
        intro b0 b1 x6 b2 c0 c1 x8 c2 hC hA
        have l0:=sums_l0 h h' N N' hN hN' W r2 c0 c1 x8 c2 hC b0 b1 x6 b2 hA (l ++ l') lL oL 0 (by omega)
        refine Evt.succ ?_
        simp only [gridhalllaw3_ConvexSums.j0, Option.bind_some, List.nil_append]
        have:=h.len
        have:=h'.len
        exact Evt.ite_pos (by simp) (Evt.ite_pos (by simp; omega) (Evt.ite_pos (by omega) l0))
      have hC : (madeQ (a + a') (v + v') r).2.2.2 = 2 ∨ ((madeQ (a + a') (v + v') r).2.2.2 = 0 ∧ (madeQ (a + a') (v + v') r).1 = a + a' ∧ Cv (madeQ (a + a') (v + v') r).1 (madeQ (a + a') (v + v') r).2.1 (madeQ (a + a') (v + v') r).2.2.1 ∧ xs (madeQ (a + a') (v + v') r).1 (madeQ (a + a') (v + v') r).2.2.1 (madeQ (a + a') (v + v') r).2.2.1.length = (madeQ (a + a') (v + v') r).1 + ((N + N' : Nat) : Int) ∧ ∀ k, k ≤ N + N' → F (madeQ (a + a') (v + v') r).1 (madeQ (a + a') (v + v') r).2.1 (madeQ (a + a') (v + v') r).2.2.1 k = W k):=by
        unfold madeQ
        by_cases e : cvErr (a + a') (v + v') r = 0
        · rw [if_pos e]
          obtain ⟨g1, g2⟩:=r3 e
          exact Or.inr ⟨rfl, rfl, cvErr_ok e, g1, g2⟩
        · rw [if_neg e]
          exact Or.inl rfl
      have ce1:=ConvexError_ev a v l
      have ce2:=ConvexError_ev a' v' l'
      rw [e1] at ce1
      rw [e2] at ce2
      by_cases c : mx a a' > mn (xs a l l.length) (xs a' l' l'.length)
      · rw [if_pos c] at A
        exact Evt.bind A (Evt.bind r1 (Evt.bind ce1 (Evt.ite_pos rfl (Evt.bind ce2 (rest _ _ _ _ _ _ _ _ hC (by rw [if_pos c]))))))
      · rw [if_neg c] at A
        obtain ⟨V, s, A1, A2⟩:=A
        refine Evt.bind A1 (Evt.bind r1 (Evt.bind ce1 (Evt.ite_pos rfl (Evt.bind ce2 (rest _ _ _ _ _ _ _ _ hC ?_)))))
        rw [if_neg c]
        unfold madeQ
        by_cases e : cvErr (mx a a') V s = 0
        · rw [if_pos e]
          obtain ⟨g1, g2⟩:=A2 e
          exact Or.inr ⟨rfl, rfl, cvErr_ok e, g1, g2⟩
        · rw [if_neg e]
          exact Or.inl rfl
    · obtain ⟨b1, b2⟩:=csum_bad a v l a' v' l' _ e2 (by rw [if_pos e1])
      have ce1:=ConvexError_ev a v l
      rw [e1] at ce1
      exact Evt.bind b1 (Evt.bind b2 (Evt.bind ce1 (Evt.ite_pos rfl (Evt.bind (ConvexError_ev a' v' l') (bad _ e2)))))
  · obtain ⟨b1, b2⟩:=csum_bad a v l a' v' l' _ e1 (by rw [if_neg e1])
    exact Evt.bind b1 (Evt.bind b2 (Evt.bind (ConvexError_ev a v l) (Evt.ite_neg e1 (bad _ e1))))
end Go.Proofs.Ytdgjelbkogfedaa.IConvexSums
