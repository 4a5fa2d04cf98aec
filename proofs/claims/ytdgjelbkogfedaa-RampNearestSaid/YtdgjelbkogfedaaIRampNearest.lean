import Derived.Test.YtdgjelbkogfedaaGRampNearest
namespace Go.Proofs.Ytdgjelbkogfedaa.IRampNearest
open Go.RowKit Go.Proofs.YtdgjelbkogfedaaW.PrintWords Go.Proofs.YtdgjelbkogfedaaW.PrintMore Go.Proofs.Ytdgjelbkogfedaa.Evs Go.Proofs.Ytdgjelbkogfedaa.PRampNearest Go.Proofs.Ytdgjelbkogfedaa.CRampNearest Go.Proofs.Ytdgjelbkogfedaa.ZRampNearest Go.Proofs.Ytdgjelbkogfedaa.XRampNearest Go.Proofs.Ytdgjelbkogfedaa.ERampNearest Go.Proofs.Ytdgjelbkogfedaa.GRampNearest
set_option linter.unusedVariables false
set_option linter.unusedSectionVars false
set_option linter.unusedSimpArgs false
theorem wn (n : Nat) (h : n ≤ 1000) : wrap64 ((n : Int) + 1) = ((n + 1 : Nat) : Int) := wrap64_nat (by omega)
def okArg (b u d : Int) : Prop := (0 ≤ b ∧ b ≤ 100000) ∧ (0 ≤ u ∧ u ≤ 100000) ∧ (0 ≤ d ∧ d ≤ 100000)
theorem err_l0 (b u d : Int) (l : List S97) (hl : l.length ≤ 24) : ∀ n, n ≤ l.length → (∀ m, m < n → okR (l.getD m z97)) →
    ∃ e, Evt (fun k => ramp_Check.l0 k b u d l (l.length : Int) (n : Int)) e ∧ Evt (fun k => gridhalllaw3_rampError.l0 k b u d l (l.length : Int) (n : Int)) e ∧
      (e = 0 → (∀ m, m < l.length → okR (l.getD m z97)) ∧ okArg b u d):=by
  refine down ?_ ?_
  · intro hx
    by_cases c : okArg b u d
    · obtain ⟨⟨c1, c2⟩,⟨c3, c4⟩, c5, c6⟩:=c
      refine ⟨0, Evt.succ ?_, Evt.succ ?_, fun _ => ⟨hx, ⟨c1, c2⟩,⟨c3, c4⟩, c5, c6⟩⟩
      · simp only [ramp_Check.l0]
        exact Evt.ite_neg (by omega) (Evt.ite_neg (by omega) (Evt.ite_neg (by omega) (Evt.ite_neg (by omega) (Evt.ite_neg (by omega) (Evt.ite_neg (by omega) (Evt.ite_neg (by omega) (Evt.pure _)))))))
      · simp only [gridhalllaw3_rampError.l0, in_eq, Option.bind_some, decide_eq_true_eq]
        exact Evt.ite_neg (by omega) (Evt.ite_pos ⟨c1, c2⟩ (Evt.ite_pos ⟨c3, c4⟩ (Evt.ite_pos ⟨c5, c6⟩ (Evt.pure _))))
    · refine ⟨4, Evt.succ ?_, Evt.succ ?_, fun h => by omega⟩
      · simp only [ramp_Check.l0]
        refine Evt.ite_neg (by omega) (Evt.ite (fun _ => Evt.pure _) fun _ => Evt.ite (fun _ => Evt.pure _) fun _ => Evt.ite (fun _ => Evt.pure _) fun _ => Evt.ite (fun _ => Evt.pure _) fun _ => Evt.ite (fun _ => Evt.pure _) fun _ => Evt.ite_pos ?_ (Evt.pure _))
        unfold okArg at c
        omega
      · simp only [gridhalllaw3_rampError.l0, in_eq, Option.bind_some, decide_eq_true_eq]
        refine Evt.ite_neg (by omega) (Evt.ite (fun h1 => Evt.ite (fun h2 => Evt.ite (fun h3 => absurd ⟨h1, h2, h3⟩ c) fun _ => Evt.pure _) fun _ => Evt.pure _) fun _ => Evt.pure _)
  · intro n hn ih hx
    by_cases c : okR (l.getD n z97)
    · obtain ⟨e, e1, e2, e3⟩:=ih (fun m hm => by
        by_cases q : m = n
        · subst q; exact c
        · exact hx m (by omega))
      obtain ⟨c1, c2, c3⟩:=c
      refine ⟨e, Evt.succ ?_, Evt.succ ?_, e3⟩
      · simp only [ramp_Check.l0, rdx, wn n (by omega)]
        exact Evt.ite_pos (by omega) (Evt.ite_pos (by omega) (Evt.ite_pos (by omega) (Evt.ite_neg (by omega) (Evt.ite_neg (by omega) (Evt.ite_neg (by omega) e1)))))
      · simp only [gridhalllaw3_rampError.l0, in_eq, Option.bind_some, decide_eq_true_eq, rdx, wn n (by omega)]
        exact Evt.ite_pos (by omega) (Evt.ite_pos (by omega) (Evt.ite_pos (by omega) (Evt.ite_pos ⟨c1, c2⟩ (Evt.ite_neg (by omega) e2))))
    · unfold okR at c
      refine ⟨4, Evt.succ ?_, Evt.succ ?_, fun h => by omega⟩
      · simp only [ramp_Check.l0, rdx]
        refine Evt.ite_pos (by omega) (Evt.ite_pos (by omega) (Evt.ite_pos (by omega) (Evt.ite (fun _ => Evt.pure _) fun _ => Evt.ite (fun _ => Evt.pure _) fun _ => Evt.ite_pos ?_ (Evt.pure _))))
        omega
      · simp only [gridhalllaw3_rampError.l0, in_eq, Option.bind_some, decide_eq_true_eq, rdx]
        refine Evt.ite_pos (by omega) (Evt.ite_pos (by omega) (Evt.ite_pos (by omega) (Evt.ite (fun h => Evt.ite_pos ?_ (Evt.pure _)) fun _ => Evt.pure _)))
        omega
theorem err_ev (b u d : Int) (l : List S97) : ∃ e, Evt (fun k => ramp_Check.f k l b u d) e ∧ Evt (fun k => gridhalllaw3_rampError.f k l b u d) e ∧
    (e = 0 → l.length ≤ 24 ∧ (∀ m, m < l.length → okR (l.getD m z97)) ∧ okArg b u d):=by
  simp only [ramp_Check.f, gridhalllaw3_rampError.f]
  by_cases c : (l.length : Int) > 24
  · exact ⟨2, Evt.ite_pos c (Evt.pure _), Evt.ite_pos c (Evt.pure _), fun h => by omega⟩
  · obtain ⟨e, e1, e2, e3⟩:=err_l0 b u d l (by omega) 0 (by omega) (fun m hm => by omega)
    exact ⟨e, Evt.ite_neg c e1, Evt.ite_neg c e2, fun h => ⟨by omega, e3 h⟩⟩
def okT (t : Int) : Prop := 0 ≤ t ∧ t ≤ 100000
theorem vcv0 (b : Int) (hb : 0 ≤ b ∧ b ≤ 100000) : CvF ⟨b, 0, []⟩ := by
  refine ⟨by simp, fun n hn => ?_, fun n hn => ?_, fun n h1 h2 => ?_⟩
  · simp at hn
    subst hn
    unfold PreC okY
    simp [xs, ys]
    omega
  · simp at hn
  · simp at h2
theorem near_l0 (b u d : Int) (l : List S97) (tg : List Int) (hl : l.length ≤ 24) (hx : ∀ n, n < l.length → okR (l.getD n z97)) (hA : okArg b u d) (htl : tg.length = l.length) : ∀ n, n ≤ tg.length → (∀ m, m < n → okT (tg.getD m 0)) →
    ∃ R : List Int × Int × Int, Evt (fun k => ramp_Nearest.l0 k l b u d tg tg (tg.length : Int) (n : Int)) R ∧
      ((∃ m, m < tg.length ∧ ¬ okT (tg.getD m 0)) → R = ([], 0, 4)) ∧
      ((∀ m, m < tg.length → okT (tg.getD m 0)) → b ≤ 40 → (∀ n, n < l.length → (l.getD n z97).f1 ≤ 40 ∧ tg.getD n 0 ≤ 40) →
        (∃ fs : List S82, fs.length = l.length + 1 ∧ fs.getD 0 zFn = ⟨b, 0, []⟩ ∧ (∀ i, i ≤ l.length → Sm (fs.getD i zFn) (40 * (i : Int))) ∧ (∀ i, i < l.length → Stepd (fs.getD i zFn) (fs.getD (i + 1) zFn) (l.getD i z97) u d (tg.getD i 0)) ∧
          R.2.2 = 0 ∧ Chain u d fs l.length R.1 0 ∧ (∀ m, l.length = m + 1 → R.2.1 = val (fs.getD l.length zFn) (R.1.getD m 0)) ∧ (l.length = 0 → R.2.1 = 0)) ∨
        (R = ([], 0, 8) ∧ ∃ (fs : List S82) (m : Nat), m < l.length ∧ fs.getD 0 zFn = ⟨b, 0, []⟩ ∧ (∀ i, i ≤ m → Sm (fs.getD i zFn) (40 * (i : Int))) ∧ (∀ i, i < m → Stepd (fs.getD i zFn) (fs.getD (i + 1) zFn) (l.getD i z97) u d (tg.getD i 0)) ∧
          mx (l.getD m z97).f0 ((fs.getD m zFn).f0 - d) > mn (l.getD m z97).f1 (hiF (fs.getD m zFn) + u))):=by
  obtain ⟨hb, hu, hd⟩:=hA
  refine down ?_ ?_
  · intro ht
    have start : ∀ V r, Evt (fun k => ramp_values.f k l b u d tg) V → (V.2 = 0 → Evt (fun k => ramp_Nearest.l1 k l u d V.1 (List.replicate l.length 0) 0 (l.length : Int)) r) → (V.2 ≠ 0 → r = ([], 0, V.2)) → Evt (fun k => ramp_Nearest.l0 k l b u d tg tg (tg.length : Int) (tg.length : Int)) r:=by
      intro V r hV h1 h2
      refine Evt.succ ?_
      simp only [ramp_Nearest.l0, Int.toNat_natCast]
      refine Evt.ite_neg (by omega) (Evt.bind hV ?_)
      by_cases c : V.2 = 0
      · exact Evt.ite_pos c (Evt.ite_pos (by omega) (Evt.ite_pos (by omega) (h1 c)))
      · rw [h2 c]
        exact Evt.ite_neg c (Evt.pure _)
    have h0 : ∀ i, i ≤ 0 → CvF (([⟨b, 0, []⟩] : List S82).getD i zFn):=by
      intro i hi
      obtain rfl : i = 0:=by omega
      exact vcv0 b hb
    have bad : (∃ m, m < tg.length ∧ ¬ okT (tg.getD m 0)) → False:=fun ⟨m, m1, m2⟩ => m2 (ht m m1)
    by_cases sm : b ≤ 40 ∧ ∀ n, n < l.length → (l.getD n z97).f1 ≤ 40 ∧ tg.getD n 0 ≤ 40
    · have s0 : Sm (⟨b, 0, []⟩ : S82) 0:=by
        refine ⟨hb.1, ?_, fun k k1 k2 => ?_⟩
        · simp [hiF, xs]; exact sm.1
        · simp [val, fv]
      rcases values_sm hu hd tg l hl hx htl (fun n hn => ht n (by omega)) sm.2 l.length 0 [⟨b, 0, []⟩] (by omega) rfl (fun i hi => by
          obtain rfl : i = 0:=by omega
          exact ⟨h0 0 (by omega), s0⟩) (fun i hi => by omega) with ⟨fs, f1, f2, f3, f4, f5⟩|⟨fs, m, f1, f2, f3, f4, f5, f6, f7⟩
      · obtain ⟨R, r1, r2⟩:=near_l1 hu hd l hl fs f2 (fun i hi => (f3 i hi).1) tg l.length (Nat.le_refl _) (List.replicate l.length 0) 0 ⟨by simp, fun j h1 h2 => by omega, fun m h1 h2 => by omega, fun j h1 h2 => by omega⟩ (fun m h1 h2 => by omega) (fun _ => rfl)
        exact ⟨R, start _ R f1 (fun _ => r1) (fun h => absurd rfl h), fun h => (bad h).elim, fun _ _ _ => Or.inl ⟨fs, f2, f5 0 (by omega), fun i hi => (f3 i hi).2, f4, r2 f4⟩⟩
      · exact ⟨([], 0, 8), start _ _ f1 (fun h => absurd h (by simp)) (fun _ => rfl), fun h => (bad h).elim, fun _ _ _ => Or.inr ⟨rfl, fs, m, f2, f6 0 (by omega), fun i hi => (f4 i hi).2, f5, f7⟩⟩
    · obtain ⟨V, v1, v2, v3⟩:=values_l0 hu hd tg l hl hx htl (fun n hn => ht n (by omega)) l.length 0 [⟨b, 0, []⟩] (by omega) rfl h0
      by_cases c : V.2 = 0
      · obtain ⟨v4, v5⟩:=v2 c
        obtain ⟨R, r1, _⟩:=near_l1 hu hd l hl V.1 v4 v5 tg l.length (Nat.le_refl _) (List.replicate l.length 0) 0 ⟨by simp, fun j h1 h2 => by omega, fun m h1 h2 => by omega, fun j h1 h2 => by omega⟩ (fun m h1 h2 => by omega) (fun _ => rfl)
        exact ⟨R, start V R v1 (fun _ => r1) (fun h => absurd c h), fun h => (bad h).elim, fun _ h1 h2 => (sm ⟨h1, h2⟩).elim⟩
      · exact ⟨([], 0, V.2), start V _ v1 (fun h => absurd h c) (fun _ => rfl), fun h => (bad h).elim, fun _ h1 h2 => (sm ⟨h1, h2⟩).elim⟩
  · intro n hn ih ht
    by_cases c : okT (tg.getD n 0)
    · obtain ⟨R, r1, r2, r3⟩:=ih (fun m hm => by
        by_cases q : m = n
        · subst q; exact c
        · exact ht m (by omega))
      obtain ⟨c1, c2⟩:=c
      refine ⟨R, Evt.succ ?_, r2, r3⟩
      simp only [ramp_Nearest.l0, rdi, wn n (by omega)]
      exact Evt.ite_pos (by omega) (Evt.ite_pos (by omega) (Evt.ite_pos (by omega) (Evt.ite_neg (by omega) (Evt.ite_neg (by omega) r1))))
    · refine ⟨([], 0, 4), Evt.succ ?_, fun _ => rfl, fun h _ _ => absurd (h n hn) c⟩
      simp only [ramp_Nearest.l0, rdi]
      unfold okT at c
      refine Evt.ite_pos (by omega) (Evt.ite_pos (by omega) (Evt.ite_pos (by omega) (Evt.ite (fun _ => Evt.pure _) fun _ => Evt.ite_pos ?_ (Evt.pure _))))
      omega
abbrev nv : Int := 1152921504606846976
theorem nv_eq : nv = 1152921504606846976 := rfl
def Cell (x : S97) (u d t : Int) (r : List Int) (k B : Nat) (v : Int) : Prop :=
  v ≤ nv ∧ (∀ b : Nat, b < B → r.getD b 0 < nv → x.f0 ≤ k → (k : Int) ≤ x.f1 → -d ≤ (k : Int) - b → (k : Int) - b ≤ u → v ≤ r.getD b 0 + dist k t) ∧
  (v = nv ∨ ∃ b : Nat, b < B ∧ r.getD b 0 < nv ∧ x.f0 ≤ k ∧ (k : Int) ≤ x.f1 ∧ -d ≤ (k : Int) - b ∧ (k : Int) - b ≤ u ∧ v = r.getD b 0 + dist k t)
theorem Cell.zero {x : S97} {u d t : Int} {r : List Int} {k : Nat} : Cell x u d t r k 0 nv := ⟨Int.le_refl _, fun b hb => by omega, Or.inl rfl⟩
theorem Cell.skip {x : S97} {u d t : Int} {r : List Int} {k B : Nat} {v : Int} (h : Cell x u d t r k B v) (hn : ¬ (r.getD B 0 < nv ∧ x.f0 ≤ k ∧ (k : Int) ≤ x.f1 ∧ -d ≤ (k : Int) - B ∧ (k : Int) - B ≤ u)) : Cell x u d t r k (B + 1) v := by
  obtain ⟨h1, h2, h3⟩:=h
  refine ⟨h1, fun b hb q1 q2 q3 q4 q5 => ?_, ?_⟩
  · by_cases e : b = B
    · subst e
      exact absurd ⟨q1, q2, q3, q4, q5⟩ hn
    · exact h2 b (by omega) q1 q2 q3 q4 q5
  · rcases h3 with h3|⟨b, b1, b2⟩
    · exact Or.inl h3
    · exact Or.inr ⟨b, by omega, b2⟩
theorem Cell.take {x : S97} {u d t : Int} {r : List Int} {k B : Nat} {v : Int} (h : Cell x u d t r k B v) (q1 : r.getD B 0 < nv) (q2 : x.f0 ≤ k) (q3 : (k : Int) ≤ x.f1) (q4 : -d ≤ (k : Int) - B) (q5 : (k : Int) - B ≤ u) : Cell x u d t r k (B + 1) (mn v (r.getD B 0 + dist k t)) := by
  obtain ⟨h1, h2, h3⟩:=h
  have m1 : mn v (r.getD B 0 + dist k t) ≤ v ∧ mn v (r.getD B 0 + dist k t) ≤ r.getD B 0 + dist k t:=by unfold mn; split <;> omega
  refine ⟨by omega, fun b hb p1 p2 p3 p4 p5 => ?_, ?_⟩
  · by_cases e : b = B
    · subst e
      exact m1.2
    · have:=h2 b (by omega) p1 p2 p3 p4 p5
      omega
  · by_cases c : r.getD B 0 + dist k t < v
    · exact Or.inr ⟨B, by omega, q1, q2, q3, q4, q5, by unfold mn; rw [if_pos c]⟩
    · have e : mn v (r.getD B 0 + dist k t) = v:=by unfold mn; rw [if_neg c]
      rw [e]
      rcases h3 with h3|⟨b, b1, b2⟩
      · exact Or.inl h3
      · exact Or.inr ⟨b, by omega, b2⟩
structure Nx (x : S97) (u d t : Int) (r s : List Int) : Prop where
  len : s.length = 41
  cell : ∀ k : Nat, k < 41 → Cell x u d t r k 41 (s.getD k 0)
def RowB (B : Int) (r : List Int) : Prop := r.length = 41 ∧ ∀ b : Nat, b < 41 → r.getD b 0 < nv → 0 ≤ r.getD b 0 ∧ r.getD b 0 ≤ B
theorem dist40 {k t : Int} (hk : 0 ≤ k ∧ k ≤ 40) (ht : 0 ≤ t ∧ t ≤ 40) : 0 ≤ dist k t ∧ dist k t ≤ 40 := by
  unfold dist mx
  split <;> omega
theorem Nx.bd {x : S97} {u d t B : Int} {r s : List Int} (h : Nx x u d t r s) (hr : RowB B r) (ht : 0 ≤ t ∧ t ≤ 40) : RowB (B + 40) s := by
  refine ⟨h.len, fun k hk hl => ?_⟩
  obtain ⟨_, _, h3⟩:=h.cell k hk
  rcases h3 with h3|⟨b, b1, b2, _, _, _, _, e⟩
  · omega
  · have:=hr.2 b b1 b2
    have:=dist40 (k:=k) (by omega) ht
    omega
section
variable {u d : Int} (hu : 0 ≤ u ∧ u ≤ 100000) (hd : 0 ≤ d ∧ d ≤ 100000) (tg : List Int) (l : List S97) (hl : l.length ≤ 24) (htl : tg.length = l.length) (ht : ∀ n, n < l.length → 0 ≤ tg.getD n 0 ∧ tg.getD n 0 ≤ 40)
include hu hd hl htl ht
theorem climbs_l3 (r : List Int) (hr : RowB 1000 r) (out : List (List Int)) (t : Nat) (htn : t < l.length) (k : Nat) (hk : k < 41) : ∀ b, b ≤ 41 → ∀ s : List Int, s.length = 41 → Cell (l.getD t z97) u d (tg.getD t 0) r k b (s.getD k 0) →
    ∃ s' : List Int, s'.length = 41 ∧ (∀ j, j ≠ k → s'.getD j 0 = s.getD j 0) ∧ Cell (l.getD t z97) u d (tg.getD t 0) r k 41 (s'.getD k 0) ∧
      ∀ R, Evt (fun q => gridhalllaw3_climbs.l2 q u d tg r out (t : Int) s' l (l.length : Int) (t : Int) 41 ((k + 1 : Nat) : Int) (l.getD t z97).f0 (l.getD t z97).f1) R →
        Evt (fun q => gridhalllaw3_climbs.l3 q u d tg r out (t : Int) s (k : Int) l (l.length : Int) (t : Int) 41 (k : Int) r 41 (b : Int) (l.getD t z97).f0 (l.getD t z97).f1) R:=by
  refine down ?_ ?_
  · intro s hs hc
    refine ⟨s, hs, fun j _ => rfl, hc, fun R hR => Evt.succ ?_⟩
    simp only [gridhalllaw3_climbs.l3, wn k (by omega)]
    exact Evt.ite_neg (by omega) hR
  · intro b hb ih s hs hc
    have rl:=hr.1
    have tb:=ht t htn
    by_cases c : r.getD b 0 < nv ∧ (l.getD t z97).f0 ≤ k ∧ (k : Int) ≤ (l.getD t z97).f1 ∧ -d ≤ (k : Int) - b ∧ (k : Int) - b ≤ u
    · obtain ⟨c1, c2, c3, c4, c5⟩:=c
      have rb:=hr.2 b hb c1
      have db:=dist40 (k:=k) (by omega) tb
      have sk : (s.set k (mn (s.getD k 0) (r.getD b 0 + dist k (tg.getD t 0)))).getD k 0 = mn (s.getD k 0) (r.getD b 0 + dist k (tg.getD t 0)):=by rw [getD_set, if_pos ⟨rfl, by omega⟩]
      obtain ⟨s', s1, s2, s3, s4⟩:=ih (s.set k (mn (s.getD k 0) (r.getD b 0 + dist k (tg.getD t 0)))) (by rw [List.length_set]; exact hs) (by rw [sk]; exact hc.take c1 c2 c3 c4 c5)
      refine ⟨s', s1, fun j hj => by rw [s2 j hj, getD_set, if_neg (fun h => hj h.1)], s3, fun R hR => Evt.succ ?_⟩
      simp only [gridhalllaw3_climbs.l3, in_eq, Option.bind_some, decide_eq_true_eq, rdi, wn b (by omega), Int.toNat_natCast]
      rw [wrap64_of (x:=(k : Int) - tg.getD t 0) (by omega) (by omega), wrap64_of (x:=tg.getD t 0 - (k : Int)) (by omega) (by omega), show mx ((k : Int) - tg.getD t 0) (tg.getD t 0 - (k : Int)) = dist k (tg.getD t 0) from rfl, wrap64_of (x:=r.getD b 0 + dist k (tg.getD t 0)) (by omega) (by omega), wrap64_of (x:=(k : Int) - b) (by omega) (by omega), wrap64_of (x:=-d) (by omega) (by omega)]
      exact Evt.ite_pos (by omega) (Evt.ite_pos (by omega) (Evt.ite_pos (by omega) (Evt.ite_pos c1 (Evt.ite_pos ⟨c2, c3⟩ (Evt.ite_pos ⟨c4, c5⟩ (Evt.ite_pos (by omega) (Evt.ite_pos (by omega) (Evt.ite_pos (by omega) (Evt.ite_pos (by omega) (s4 R hR))))))))))
    · obtain ⟨s', s1, s2, s3, s4⟩:=ih s hs (hc.skip c)
      refine ⟨s', s1, s2, s3, fun R hR => Evt.succ ?_⟩
      have go:=s4 R hR
      simp only [gridhalllaw3_climbs.l3, in_eq, Option.bind_some, decide_eq_true_eq, rdi, wn b (by omega)]
      rw [wrap64_of (x:=(k : Int) - b) (by omega) (by omega), wrap64_of (x:=-d) (by omega) (by omega)]
      refine Evt.ite_pos (by omega) (Evt.ite_pos (by omega) (Evt.ite_pos (by omega) (Evt.ite (fun c1 => Evt.ite (fun c2 => Evt.ite (fun c3 => ?_) fun _ => go) fun _ => go) fun _ => go)))
      exact absurd ⟨c1, c2.1, c2.2, c3.1, c3.2⟩ c
theorem climbs_l2 (r : List Int) (hr : RowB 1000 r) (out : List (List Int)) (ho : out.length ≤ 100) (t : Nat) (htn : t < l.length) : ∀ k, k ≤ 41 → ∀ s : List Int, s.length = 41 → (∀ j, j < k → Cell (l.getD t z97) u d (tg.getD t 0) r j 41 (s.getD j 0)) →
    ∃ s' : List Int, Nx (l.getD t z97) u d (tg.getD t 0) r s' ∧
      ∀ R, Evt (fun q => gridhalllaw3_climbs.l1 q u d tg s' (out ++ [s']) l (l.length : Int) ((t + 1 : Nat) : Int)) R →
        Evt (fun q => gridhalllaw3_climbs.l2 q u d tg r out (t : Int) s l (l.length : Int) (t : Int) 41 (k : Int) (l.getD t z97).f0 (l.getD t z97).f1) R:=by
  refine down ?_ ?_
  · intro s hs hc
    refine ⟨s, ⟨hs, hc⟩, fun R hR => Evt.succ ?_⟩
    simp only [gridhalllaw3_climbs.l2, wn t (by omega)]
    exact Evt.ite_neg (by omega) (Evt.ite_pos (by omega) hR)
  · intro k hk ih s hs hc
    have sk : (s.set k nv).getD k 0 = nv:=by rw [getD_set, if_pos ⟨rfl, by omega⟩]
    obtain ⟨s1, a1, a2, a3, a4⟩:=climbs_l3 hu hd tg l hl htl ht r hr out t htn k hk 0 (by omega) (s.set k nv) (by rw [List.length_set]; exact hs) (by rw [sk]; exact Cell.zero)
    obtain ⟨s', b1, b2⟩:=ih s1 a1 (fun j hj => by
      by_cases e : j = k
      · subst e; exact a3
      · rw [a2 j e, getD_set, if_neg (fun h => e h.1)]
        exact hc j (by omega))
    refine ⟨s', b1, fun R hR => Evt.succ ?_⟩
    have:=a4 R (b2 R hR)
    simp only [gridhalllaw3_climbs.l2, hr.1, Int.toNat_natCast]
    exact Evt.ite_pos (by omega) (Evt.ite_pos (by omega) (Evt.ite_pos (by omega) this))
theorem climbs_l1 : ∀ c t, t + c = l.length → ∀ (out : List (List Int)) (r : List Int), out.length = t + 1 → out.getD t [] = r → RowB (40 * (t : Int)) r →
    ∃ rows : List (List Int), Evt (fun q => gridhalllaw3_climbs.l1 q u d tg r out l (l.length : Int) (t : Int)) rows ∧ rows.length = l.length + 1 ∧ (∀ i, i ≤ t → rows.getD i [] = out.getD i []) ∧
      ∀ i, t ≤ i → i < l.length → Nx (l.getD i z97) u d (tg.getD i 0) (rows.getD i []) (rows.getD (i + 1) []):=by
  intro c
  induction c with
 |zero =>
    intro t htc out r ho er hb
    refine ⟨out, Evt.succ ?_, by omega, fun i _ => rfl, fun i h1 h2 => by omega⟩
    simp only [gridhalllaw3_climbs.l1]
    exact Evt.ite_neg (by omega) (Evt.pure _)
 |succ c ih =>
    intro t htc out r ho er hb
    have hb' : RowB 1000 r:=⟨hb.1, fun b h1 h2 => by have:=hb.2 b h1 h2; omega⟩
    obtain ⟨s, s1, s2⟩:=climbs_l2 hu hd tg l hl htl ht r hb' out (by omega) t (by omega) 0 (by omega) (List.replicate 41 0) (by simp) (fun j hj => by omega)
    have gl : ∀ i, i ≤ t → (out ++ [s]).getD i [] = out.getD i []:=fun i hi => by
      rw [List.getD_eq_getElem?_getD, List.getElem?_append_left (by omega), ← List.getD_eq_getElem?_getD]
    have gr : (out ++ [s]).getD (t + 1) [] = s:=by
      rw [List.getD_eq_getElem?_getD, List.getElem?_append_right (by omega)]
      simp [ho]
    obtain ⟨rows, r1, r2, r3, r4⟩:=ih (t + 1) (by omega) (out ++ [s]) s (by simp; omega) gr (by
      have:=s1.bd hb (ht t (by omega))
      rwa [show (40 : Int) * ((t + 1 : Nat) : Int) = 40 * (t : Int) + 40 by omega])
    refine ⟨rows, Evt.succ ?_, r2, fun i hi => by rw [r3 i (by omega), gl i hi], fun i h1 h2 => ?_⟩
    · simp only [gridhalllaw3_climbs.l1, rdx, Option.bind_some, List.length_replicate]
      exact Evt.ite_pos (by omega) (Evt.ite_pos (by omega) (Evt.ite_pos (by omega) (Evt.ite_pos (by omega) (s2 rows r1))))
    · by_cases e : i = t
      · subst e
        rw [r3 i (by omega), gl i (Nat.le_refl _), er, r3 (i + 1) (Nat.le_refl _), gr]
        exact s1
      · exact r4 i (by omega) h2
theorem climbs_l0 (b : Int) (hb : 0 ≤ b ∧ b ≤ 40) : ∀ n, n ≤ 41 → ∀ y : List Int, y.length = 41 → (∀ j, j < n → y.getD j 0 = nv) →
    ∃ rows : List (List Int), Evt (fun q => gridhalllaw3_climbs.l0 q l b u d tg y 41 (n : Int)) rows ∧ rows.length = l.length + 1 ∧ (rows.getD 0 []).length = 41 ∧ (∀ j : Nat, j < 41 → (rows.getD 0 []).getD j 0 = if (j : Int) = b then 0 else nv) ∧
      ∀ i, i < l.length → Nx (l.getD i z97) u d (tg.getD i 0) (rows.getD i []) (rows.getD (i + 1) []):=by
  refine down ?_ ?_
  · intro y hy hv
    obtain ⟨m, rfl⟩ : ∃ m : Nat, b = m:=⟨b.toNat, by omega⟩
    have hz : ∀ j : Nat, j < 41 → (y.set m 0).getD j 0 = if (j : Int) = (m : Int) then 0 else nv:=by
      intro j hj
      rw [getD_set]
      by_cases e : j = m
      · rw [if_pos ⟨e, by omega⟩, if_pos (by omega)]
      · rw [if_neg (fun h => e h.1), if_neg (by omega)]
        exact hv j hj
    obtain ⟨rows, r1, r2, r3, r4⟩:=climbs_l1 hu hd tg l hl htl ht l.length 0 (by omega) [y.set m 0] (y.set m 0) rfl rfl ⟨by rw [List.length_set]; exact hy, fun j h1 h2 => by
      rw [hz j h1] at h2 ⊢
      split at h2
      · rw [if_pos (by assumption)]; omega
      · omega⟩
    refine ⟨rows, Evt.succ ?_, r2, by rw [r3 0 (by omega)]; show (y.set m 0).length = 41; rw [List.length_set]; exact hy, fun j hj => by rw [r3 0 (by omega)]; exact hz j hj, fun i hi => r4 i (by omega) hi⟩
    simp only [gridhalllaw3_climbs.l0, Option.bind_some, Int.toNat_natCast]
    exact Evt.ite_neg (by omega) (Evt.ite_pos (by omega) (Evt.ite_pos (by omega) r1))
  · intro n hn ih y hy hv
    obtain ⟨rows, r1, r2⟩:=ih (y.set n nv) (by rw [List.length_set]; exact hy) (fun j hj => by
      rw [getD_set]
      by_cases e : j = n
      · rw [if_pos ⟨e, by omega⟩]
      · rw [if_neg (fun h => e h.1)]
        exact hv j (by omega))
    refine ⟨rows, Evt.succ ?_, r2⟩
    simp only [gridhalllaw3_climbs.l0, wn n (by omega), Int.toNat_natCast]
    exact Evt.ite_pos (by omega) (Evt.ite_pos (by omega) (Evt.ite_pos (by omega) r1))
theorem climbs_ev (b : Int) (hb : 0 ≤ b ∧ b ≤ 40) : ∃ rows : List (List Int), Evt (fun q => gridhalllaw3_climbs.f q l b u d tg) rows ∧ rows.length = l.length + 1 ∧ (rows.getD 0 []).length = 41 ∧ (∀ j : Nat, j < 41 → (rows.getD 0 []).getD j 0 = if (j : Int) = b then 0 else nv) ∧
      ∀ i, i < l.length → Nx (l.getD i z97) u d (tg.getD i 0) (rows.getD i []) (rows.getD (i + 1) []):=by
  obtain ⟨rows, r1, r2⟩:=climbs_l0 hu hd tg l hl htl ht b hb 0 (by omega) (List.replicate 41 0) (by simp) (fun j hj => by omega)
  refine ⟨rows, ?_, r2⟩
  simp only [gridhalllaw3_climbs.f, Option.bind_some, List.length_replicate]
  exact Evt.ite_pos (by omega) r1
end
structure On (f : S82) (r : List Int) : Prop where
  len : r.length = 41
  ins : ∀ k : Nat, k < 41 → f.f0 ≤ k → (k : Int) ≤ hiF f → r.getD k 0 = val f k
  out : ∀ k : Nat, k < 41 → ¬ (f.f0 ≤ k ∧ (k : Int) ≤ hiF f) → r.getD k 0 = nv
theorem On.lt {f : S82} {r : List Int} (h : On f r) {k : Nat} (hk : k < 41) (hl : r.getD k 0 < nv) : f.f0 ≤ k ∧ (k : Int) ≤ hiF f := by
  by_cases c : f.f0 ≤ k ∧ (k : Int) ≤ hiF f
  · exact c
  · have:=h.out k hk c
    omega
theorem on_base (b : Int) (hb : 0 ≤ b ∧ b ≤ 40) (r : List Int) (hl : r.length = 41) (h : ∀ j : Nat, j < 41 → r.getD j 0 = if (j : Int) = b then 0 else nv) : On ⟨b, 0, []⟩ r := by
  have e : hiF (⟨b, 0, []⟩ : S82) = b:=by simp [hiF, xs]
  refine ⟨hl, fun k hk h1 h2 => ?_, fun k hk h1 => ?_⟩
  · rw [e] at h2
    have h1' : b ≤ k:=h1
    rw [h k hk, if_pos (by omega)]
    simp [val, fv]
  · rw [e] at h1
    rw [h k hk, if_neg]
    intro q
    exact h1 ⟨by show b ≤ _; omega, by omega⟩
theorem on_step {f g : S82} {x : S97} {u d t B : Int} {r s : List Int} (h : On f r) (hf : Sm f B) (hB : B ≤ 1000) (hg : Sm g (B + 40)) (st : Stepd f g x u d t) (nx : Nx x u d t r s) : On g s := by
  have f1:=hf.lo
  have f2:=hf.hi
  have g1:=hg.lo
  have g2:=hg.hi
  have s1:=st.lo
  have s2:=st.hi
  have m1 : x.f0 ≤ g.f0 ∧ f.f0 - d ≤ g.f0:=by rw [s1]; unfold mx; split <;> omega
  have m2 : hiF g ≤ x.f1 ∧ hiF g ≤ hiF f + u:=by rw [s2]; unfold mn; split <;> omega
  refine ⟨nx.len, fun k hk h1 h2 => ?_, fun k hk hn => ?_⟩
  · obtain ⟨c1, c2, c3⟩:=nx.cell k hk
    have gv:=hg.val k h1 h2
    obtain ⟨b, b1, b2, b3, b4, b5⟩:=st.some k h1 h2
    obtain ⟨m, rfl⟩ : ∃ m : Nat, b = m:=⟨b.toNat, by omega⟩
    have rb:=h.ins m (by omega) b1 b2
    have fb:=hf.val m b1 b2
    have nq:=nv_eq
    have:=c2 m (by omega) (by omega) (by omega) (by omega) b3 b4
    rcases c3 with c3|⟨b', p1, p2, p3, p4, p5, p6, p7⟩
    · omega
    · obtain ⟨q1, q2⟩:=h.lt p1 p2
      have:=st.le k b' h1 h2 q1 q2 p5 p6
      have:=h.ins b' p1 q1 q2
      omega
  · obtain ⟨c1, c2, c3⟩:=nx.cell k hk
    rcases c3 with c3|⟨b', p1, p2, p3, p4, p5, p6, p7⟩
    · exact c3
    · obtain ⟨q1, q2⟩:=h.lt p1 p2
      refine absurd ⟨?_, ?_⟩ hn
      · rw [s1]; unfold mx; split <;> omega
      · rw [s2]; unfold mn; split <;> omega
def Nv (r : List Int) : Prop := r.length = 41 ∧ ∀ k : Nat, k < 41 → r.getD k 0 = nv
theorem nv_first {f : S82} {x : S97} {u d t : Int} {r s : List Int} (h : On f r) (he : mx x.f0 (f.f0 - d) > mn x.f1 (hiF f + u)) (nx : Nx x u d t r s) : Nv s := by
  refine ⟨nx.len, fun k hk => ?_⟩
  obtain ⟨c1, c2, c3⟩:=nx.cell k hk
  rcases c3 with c3|⟨b', p1, p2, p3, p4, p5, p6, p7⟩
  · exact c3
  · exfalso
    obtain ⟨q1, q2⟩:=h.lt p1 p2
    unfold mx mn at he
    split at he <;> split at he <;> omega
theorem nv_step {x : S97} {u d t : Int} {r s : List Int} (h : Nv r) (nx : Nx x u d t r s) : Nv s := by
  refine ⟨nx.len, fun k hk => ?_⟩
  obtain ⟨c1, c2, c3⟩:=nx.cell k hk
  rcases c3 with c3|⟨b', p1, p2, p3, p4, p5, p6, p7⟩
  · exact c3
  · have:=h.2 b' p1
    omega
theorem rdl (l : List (List Int)) (n : Nat) : rd_L5 l (n : Int) = l.getD n [] := rfl
section
variable {u d : Int} (hu : 0 ≤ u ∧ u ≤ 100000) (hd : 0 ≤ d ∧ d ≤ 100000) (tg : List Int) (l : List S97) (hl : l.length ≤ 24) (htl : tg.length = l.length) (ht : ∀ n, n < l.length → 0 ≤ tg.getD n 0 ∧ tg.getD n 0 ≤ 40) (p : List Int) (hp : p.length = l.length) (rows : List (List Int)) (hrl : rows.length = l.length + 1)
include hu hd hl htl ht hp hrl
theorem law_l4 {f : S82} {r s : List Int} (hr : On f r) (hf : Sm f 960) (t : Nat) (htn : t < l.length) (er : rows.getD t [] = r) (es : rows.getD (t + 1) [] = s) (hs : s.length = 41) (a : Nat) (ha : a < 41) (dd : Int) (hdd : 0 ≤ dd ∧ dd ≤ 40) (B : Nat) (hB : B < 41)
    (b1 : r.getD B 0 ≠ nv) (b2 : -d ≤ (a : Int) - B ∧ (a : Int) - B ≤ u) (b3 : r.getD B 0 + dd = s.getD a 0) (bl : ∀ b : Nat, b < B → r.getD b 0 ≠ nv → -d ≤ (a : Int) - b → (a : Int) - b ≤ u → r.getD b 0 + dd ≠ s.getD a 0)
    (R : Bool) (go : Evt (fun k => gridhalllaw3_RampNearest.l3 k u d tg p rows (B : Int) (t : Int)) R) : ∀ n, n ≤ B → Evt (fun k => gridhalllaw3_RampNearest.l4 k u d tg p rows (a : Int) ((t + 1 : Nat) : Int) dd (n : Int)) R:=by
  have hrl':=hr.len
  have wt : wrap64 (((t + 1 : Nat) : Int) - 1) = (t : Int):=by rw [wrap64_of (by omega) (by omega)]; omega
  have bdr : ∀ b : Nat, b < 41 → r.getD b 0 ≠ nv → 0 ≤ r.getD b 0 ∧ r.getD b 0 ≤ 960:=by
    intro b hb hn
    by_cases c : f.f0 ≤ b ∧ (b : Int) ≤ hiF f
    · rw [hr.ins b hb c.1 c.2]
      exact hf.val b c.1 c.2
    · exact absurd (hr.out b hb c) hn
  have nq:=nv_eq
  refine down ?_ ?_
  · have:=bdr B hB b1
    refine Evt.succ ?_
    simp only [gridhalllaw3_RampNearest.l4, in_eq, Option.bind_some, decide_eq_true_eq, wt, rdl, er, es, rdi]
    rw [wrap64_of (x:=(a : Int) - B) (by omega) (by omega), wrap64_of (x:=-d) (by omega) (by omega), wrap64_of (x:=r.getD B 0 + dd) (by omega) (by omega)]
    exact Evt.ite_pos (by omega) (Evt.ite_pos (by omega) (Evt.ite_pos (by omega) (Evt.ite_pos (by omega) (Evt.ite_neg b1 (Evt.ite_pos b2 (Evt.ite_pos (by omega) (Evt.ite_pos (by omega) (Evt.ite_pos (by omega) (Evt.ite_pos (by omega) (Evt.ite_pos b3 go))))))))))
  · intro n hn ih
    refine Evt.succ ?_
    simp only [gridhalllaw3_RampNearest.l4, in_eq, Option.bind_some, decide_eq_true_eq, wt, rdl, er, es, rdi, wn n (by omega)]
    rw [wrap64_of (x:=(a : Int) - n) (by omega) (by omega), wrap64_of (x:=-d) (by omega) (by omega)]
    refine Evt.ite_pos (by omega) (Evt.ite_pos (by omega) (Evt.ite_pos (by omega) (Evt.ite_pos (by omega) (Evt.ite (fun _ => ih) fun c1 => Evt.ite (fun c2 => ?_) fun _ => ih))))
    have:=bdr n (by omega) c1
    rw [wrap64_of (x:=r.getD n 0 + dd) (by omega) (by omega)]
    exact Evt.ite_pos (by omega) (Evt.ite_pos (by omega) (Evt.ite_pos (by omega) (Evt.ite_pos (by omega) (Evt.ite_neg (bl n hn c1 c2.1 c2.2) ih))))
theorem law_l3 (b : Int) (hb : 0 ≤ b ∧ b ≤ 40) (fs : List S82) (f0 : fs.getD 0 zFn = ⟨b, 0, []⟩) (fsm : ∀ i, i ≤ l.length → Sm (fs.getD i zFn) (40 * (i : Int))) (fst : ∀ i, i < l.length → Stepd (fs.getD i zFn) (fs.getD (i + 1) zFn) (l.getD i z97) u d (tg.getD i 0)) (fon : ∀ i, i ≤ l.length → On (fs.getD i zFn) (rows.getD i [])) (ch : Chain u d fs l.length p 0) :
    ∀ t, t ≤ l.length → ∀ a : Nat, (∀ m, t = m + 1 → p.getD m 0 = a) → (fs.getD t zFn).f0 ≤ a → (a : Int) ≤ hiF (fs.getD t zFn) → Evt (fun k => gridhalllaw3_RampNearest.l3 k u d tg p rows (a : Int) (t : Int)) true:=by
  intro t
  induction t with
 |zero =>
    intro _ a _ _ _
    refine Evt.succ ?_
    simp only [gridhalllaw3_RampNearest.l3]
    exact Evt.ite_neg (by omega) (Evt.pure _)
 |succ t ih =>
    intro htl' a hpa a1 a2
    have wt : wrap64 (((t + 1 : Nat) : Int) - 1) = (t : Int):=by rw [wrap64_of (by omega) (by omega)]; omega
    have st:=fst t (by omega)
    have sm:=fsm t (by omega)
    have sm1:=fsm (t + 1) htl'
    have m1:=sm1.lo
    have m2:=sm1.hi
    have m3:=sm.lo
    have m4:=sm.hi
    have on:=fon t (by omega)
    have on1:=fon (t + 1) htl'
    have tb:=ht t (by omega)
    have db:=dist40 (k:=a) (by omega) tb
    have A : ∃ B : Nat, (∀ m, t = m + 1 → p.getD m 0 = B) ∧ ArgR (fs.getD t zFn) ((a : Int) - u) ((a : Int) + d) B:=by
      cases t with
     |zero =>
        obtain ⟨x, x1, x2, x3, x4, x5⟩:=st.some a a1 a2
        have e : hiF (⟨b, 0, []⟩ : S82) = b:=by simp [hiF, xs]
        rw [f0] at x1 x2 ⊢
        rw [e] at x2
        have x1' : b ≤ x:=x1
        refine ⟨b.toNat, fun m hm => by omega, ?_⟩
        rw [show ((b.toNat : Nat) : Int) = b by omega]
        refine ⟨Int.le_refl _, by rw [e]; exact Int.le_refl _, by omega, by omega, fun j j1 j2 _ _ => ?_, fun j j1 _ j2 => ?_⟩
        · rw [e] at j2
          have j1' : b ≤ j:=j1
          rw [show j = b by omega]
          exact Int.le_refl _
        · have j1' : b ≤ j:=j1
          omega
     |succ m =>
        have:=ch.arg m (by omega) (by omega)
        rw [hpa (m + 1) rfl] at this
        have q1:=this.d1
        have q2:=this.d2
        refine ⟨(p.getD m 0).toNat, fun m' hm' => ?_, ?_⟩
        · have : m' = m:=by omega
          subst this
          omega
        · rw [show (((p.getD m 0).toNat : Nat) : Int) = p.getD m 0 by omega]
          exact this
    obtain ⟨B, hB, A⟩:=A
    have A1:=A.d1
    have A2:=A.d2
    have A3:=A.r1
    have A4:=A.r2
    have hg : val (fs.getD (t + 1) zFn) a = val (fs.getD t zFn) B + dist a (tg.getD t 0):=by
      obtain ⟨x, x1, x2, x3, x4, x5⟩:=st.some a a1 a2
      have:=st.le a B a1 a2 A1 A2 (by omega) (by omega)
      have:=A.le x x1 x2 (by omega) (by omega)
      omega
    have vB:=sm.val B A1 A2
    have eB:=on.ins B (by omega) A1 A2
    have ea:=on1.ins a (by omega) a1 a2
    have nq:=nv_eq
    have go:=law_l4 hu hd tg l hl htl ht p hp rows hrl on (f:=fs.getD t zFn) ⟨sm.lo, sm.hi, fun k k1 k2 => by have:=sm.val k k1 k2; omega⟩ t (by omega) rfl rfl on1.len a (by omega) (dist a (tg.getD t 0)) db B (by omega) (by omega) (by omega) (by omega) (fun x xb x1 x2 x3 => by
      by_cases c : (fs.getD t zFn).f0 ≤ x ∧ (x : Int) ≤ hiF (fs.getD t zFn)
      · have ex:=on.ins x (by omega) c.1 c.2
        have:=A.lt x c.1 (by omega) (by omega)
        omega
      · exact absurd (on.out x (by omega) c) x1) true (ih (by omega) B hB A1 A2) 0 (by omega)
    refine Evt.succ ?_
    simp only [gridhalllaw3_RampNearest.l3, wt, rdi]
    rw [wrap64_of (x:=(a : Int) - tg.getD t 0) (by omega) (by omega), wrap64_of (x:=tg.getD t 0 - (a : Int)) (by omega) (by omega), show mx ((a : Int) - tg.getD t 0) (tg.getD t 0 - (a : Int)) = dist a (tg.getD t 0) from rfl]
    exact Evt.ite_pos (by omega) (Evt.ite_pos (by omega) (Evt.ite_pos (by omega) (Evt.ite_pos (hpa t rfl) (Evt.ite_pos (by omega) go))))
theorem law_l2 (last : List Int) (hlast : last.length = 41) (K : Nat) (hK : K < 41) (k1 : last.getD K 0 < nv) (k2 : ∀ j, j < 41 → last.getD K 0 ≤ last.getD j 0) (k3 : ∀ j, j < K → last.getD K 0 < last.getD j 0)
    (R : Bool) (go : Evt (fun k => gridhalllaw3_RampNearest.l3 k u d tg p rows (K : Int) (l.length : Int)) R) :
    ∀ n, n ≤ 41 → ∀ a : Int, ((a = -1 ∧ ∀ j, j < n → ¬ last.getD j 0 < nv) ∨ ∃ m : Nat, m < n ∧ a = m ∧ last.getD m 0 < nv ∧ (∀ j, j < n → last.getD m 0 ≤ last.getD j 0) ∧ ∀ j, j < m → last.getD m 0 < last.getD j 0) →
      Evt (fun k => gridhalllaw3_RampNearest.l2 k l u d tg p (last.getD K 0) 0 rows last a last 41 (n : Int)) R:=by
  have nq:=nv_eq
  refine down ?_ ?_
  · intro a hv
    have e : a = K:=by
      rcases hv with ⟨_, h⟩|⟨m, m1, m2, m3, m4, m5⟩
      · exact absurd k1 (h K hK)
      · rw [m2]
        have q1:=k2 m m1
        have q2:=m4 K hK
        by_cases c : m < K
        · have:=k3 m c; omega
        · by_cases c' : K < m
          · have:=m5 K c'; omega
          · omega
    rw [e]
    refine Evt.succ ?_
    simp only [gridhalllaw3_RampNearest.l2, rdi]
    refine Evt.ite_neg (by omega) (Evt.ite_neg (by omega) (Evt.ite_pos (by simp) (Evt.ite_pos (by omega) (Evt.ite_pos (by omega) (Evt.ite_pos (by omega) (Evt.succ ?_))))))
    simp only [gridhalllaw3_RampNearest.j6]
    exact Evt.ite_neg (by simp) go
  · intro n hn ih a hv
    refine Evt.succ ?_
    simp only [gridhalllaw3_RampNearest.l2, rdi, wn n (by omega)]
    refine Evt.ite_pos (by omega) (Evt.ite_pos (by omega) (Evt.ite_pos (by omega) ?_))
    rcases hv with ⟨rfl, h⟩|⟨m, m1, rfl, m3, m4, m5⟩
    · refine Evt.ite (fun c => Evt.ite_pos (by omega) (ih _ (Or.inr ⟨n, by omega, rfl, c, fun j hj => ?_, fun j hj => ?_⟩))) fun c => ih _ (Or.inl ⟨rfl, fun j hj => ?_⟩)
      · by_cases e : j = n
        · subst e; exact Int.le_refl _
        · have:=h j (by omega); omega
      · have:=h j (by omega); omega
      · by_cases e : j = n
        · subst e; exact c
        · exact h j (by omega)
    · simp only [rdi]
      refine Evt.ite (fun c => Evt.ite_neg (by omega) (Evt.ite_pos (by omega) (Evt.ite_pos (by omega) (Evt.ite (fun c2 => ih _ (Or.inr ⟨n, by omega, rfl, c, fun j hj => ?_, fun j hj => ?_⟩)) fun c2 => ih _ (Or.inr ⟨m, by omega, rfl, m3, fun j hj => ?_, m5⟩))))) fun c => ih _ (Or.inr ⟨m, by omega, rfl, m3, fun j hj => ?_, m5⟩)
      · by_cases e : j = n
        · subst e; exact Int.le_refl _
        · have:=m4 j (by omega); omega
      · have:=m4 j (by omega); omega
      · by_cases e : j = n
        · subst e; omega
        · exact m4 j (by omega)
      · by_cases e : j = n
        · subst e; omega
        · exact m4 j (by omega)
end
theorem law_l2n (l : List S97) (u d : Int) (tg : List Int) (rows : List (List Int)) (last : List Int) (h : Nv last) : ∀ n : Nat, n ≤ 41 → Evt (fun k => gridhalllaw3_RampNearest.l2 k l u d tg [] 0 8 rows last (-1) last 41 (n : Int)) true := by
  refine down ?_ ?_
  · refine Evt.succ ?_
    simp only [gridhalllaw3_RampNearest.l2]
    exact Evt.ite_neg (by omega) (Evt.ite_pos (by simp) (Evt.ite_pos (by simp) (Evt.ite_pos (by simp) (Evt.of_eq (by simp)))))
  · intro n hn ih
    have e:=h.2 n hn
    have e1:=h.1
    have nq:=nv_eq
    refine Evt.succ ?_
    simp only [gridhalllaw3_RampNearest.l2, rdi, wn n (by omega)]
    exact Evt.ite_pos (by omega) (Evt.ite_pos (by omega) (Evt.ite_pos (by omega) (Evt.ite_neg (by omega) ih)))
theorem law_l1 (b u d : Int) (l : List S97) (tg : List Int) (hl : l.length ≤ 24) (hx : ∀ n, n < l.length → okR (l.getD n z97)) (hA : okArg b u d) (htl : tg.length = l.length) (htt : ∀ m, m < tg.length → okT (tg.getD m 0)) (R : List Int × Int × Int)
    (hR : b ≤ 40 → (∀ n, n < l.length → (l.getD n z97).f1 ≤ 40 ∧ tg.getD n 0 ≤ 40) →
        (∃ fs : List S82, fs.length = l.length + 1 ∧ fs.getD 0 zFn = ⟨b, 0, []⟩ ∧ (∀ i, i ≤ l.length → Sm (fs.getD i zFn) (40 * (i : Int))) ∧ (∀ i, i < l.length → Stepd (fs.getD i zFn) (fs.getD (i + 1) zFn) (l.getD i z97) u d (tg.getD i 0)) ∧
          R.2.2 = 0 ∧ Chain u d fs l.length R.1 0 ∧ (∀ m, l.length = m + 1 → R.2.1 = val (fs.getD l.length zFn) (R.1.getD m 0)) ∧ (l.length = 0 → R.2.1 = 0)) ∨
        (R = ([], 0, 8) ∧ ∃ (fs : List S82) (m : Nat), m < l.length ∧ fs.getD 0 zFn = ⟨b, 0, []⟩ ∧ (∀ i, i ≤ m → Sm (fs.getD i zFn) (40 * (i : Int))) ∧ (∀ i, i < m → Stepd (fs.getD i zFn) (fs.getD (i + 1) zFn) (l.getD i z97) u d (tg.getD i 0)) ∧
          mx (l.getD m z97).f0 ((fs.getD m zFn).f0 - d) > mn (l.getD m z97).f1 (hiF (fs.getD m zFn) + u))) :
    ∀ n, n ≤ l.length → (∀ m, m < n → b ≤ 40 ∧ (l.getD m z97).f1 ≤ 40 ∧ tg.getD m 0 ≤ 40) → Evt (fun k => gridhalllaw3_RampNearest.l1 k l b u d tg R.1 R.2.1 R.2.2 l (l.length : Int) (n : Int)) true:=by
  obtain ⟨hb, hu, hd⟩:=hA
  have nq:=nv_eq
  refine down ?_ ?_
  · intro hs
    refine Evt.succ ?_
    simp only [gridhalllaw3_RampNearest.l1]
    refine Evt.ite_neg (by omega) (Evt.ite (fun _ => Evt.pure _) fun cb => ?_)
    have ht : ∀ n, n < l.length → 0 ≤ tg.getD n 0 ∧ tg.getD n 0 ≤ 40:=fun n hn => ⟨(htt n (by omega)).1, (hs n hn).2.2⟩
    obtain ⟨rows, r1, r2, r3, r4, r5⟩:=climbs_ev hu hd tg l hl htl ht b ⟨hb.1, by omega⟩
    refine Evt.bind r1 (Evt.ite_pos (by omega) (Evt.ite_pos (by omega) ?_))
    rw [rdl]
    have base:=on_base b ⟨hb.1, by omega⟩ _ r3 r4
    rcases hR (by omega) (fun n hn => (hs n hn).2) with ⟨fs, f1, f2, f3, f4, e1, e2, e3, e4⟩|⟨rfl, fs, m, m1, f2, f3, f4, f5⟩
    · have fon : ∀ i, i ≤ l.length → On (fs.getD i zFn) (rows.getD i []):=by
        intro i
        induction i with
       |zero => intro _; rw [f2]; exact base
       |succ i ih =>
          intro hi
          exact on_step (ih (by omega)) (f3 i (by omega)) (by omega) (by have:=f3 (i + 1) hi; rwa [show (40 : Int) * ((i + 1 : Nat) : Int) = 40 * (i : Int) + 40 by omega] at this) (f4 i (by omega)) (r5 i (by omega))
      have on:=fon l.length (Nat.le_refl _)
      have sm:=f3 l.length (Nat.le_refl _)
      have A : ∃ K : Nat, (∀ m, l.length = m + 1 → R.1.getD m 0 = K) ∧ ArgR (fs.getD l.length zFn) (fs.getD l.length zFn).f0 (hiF (fs.getD l.length zFn)) K ∧ R.2.1 = val (fs.getD l.length zFn) K:=by
        by_cases z : l.length = 0
        · have e : hiF (⟨b, 0, []⟩ : S82) = b:=by simp [hiF, xs]
          refine ⟨b.toNat, fun m hm => by omega, ?_⟩
          rw [show ((b.toNat : Nat) : Int) = b by omega, z, f2]
          refine ⟨⟨Int.le_refl _, by rw [e]; exact Int.le_refl _, Int.le_refl _, by rw [e]; exact Int.le_refl _, fun j j1 j2 _ _ => ?_, fun j j1 _ j2 => ?_⟩, ?_⟩
          · rw [e] at j2
            have j1' : b ≤ j:=j1
            rw [show j = b by omega]
            exact Int.le_refl _
          · have j1' : b ≤ j:=j1
            omega
          · rw [e4 z]
            simp [val, fv]
        · obtain ⟨m, hm⟩ : ∃ m, l.length = m + 1:=⟨l.length - 1, by omega⟩
          have:=e2.last m hm (by omega)
          have q1:=this.d1
          have q2:=sm.lo
          refine ⟨(R.1.getD m 0).toNat, fun m' hm' => ?_, ?_⟩
          · have : m' = m:=by omega
            subst this
            omega
          · rw [show (((R.1.getD m 0).toNat : Nat) : Int) = R.1.getD m 0 by omega]
            exact ⟨this, e3 m hm⟩
      obtain ⟨K, kp, ka, kv⟩:=A
      have q1:=ka.d1
      have q2:=ka.d2
      have q3:=sm.hi
      have q4:=sm.val K q1 q2
      have eK:=on.ins K (by omega) q1 q2
      have go:=law_l3 hu hd tg l hl htl ht R.1 e2.len rows r2 b ⟨hb.1, by omega⟩ fs f2 f3 f4 fon e2 l.length (Nat.le_refl _) K kp q1 q2
      have:=law_l2 hu hd tg l hl htl ht R.1 e2.len rows r2 _ on.len K (by omega) (by omega) (fun j hj => by
          by_cases c : (fs.getD l.length zFn).f0 ≤ j ∧ (j : Int) ≤ hiF (fs.getD l.length zFn)
          · rw [eK, on.ins j hj c.1 c.2]
            exact ka.le j c.1 c.2 c.1 c.2
          · rw [on.out j hj c]
            omega) (fun j hj => by
          by_cases c : (fs.getD l.length zFn).f0 ≤ j ∧ (j : Int) ≤ hiF (fs.getD l.length zFn)
          · rw [eK, on.ins j (by omega) c.1 c.2]
            exact ka.lt j c.1 c.1 (by omega)
          · rw [on.out j (by omega) c]
            omega) true go 0 (by omega) (-1) (Or.inl ⟨rfl, fun j hj => by omega⟩)
      rw [on.len, e1, kv, ← eK]
      exact this
    · have fon : ∀ i, i ≤ m → On (fs.getD i zFn) (rows.getD i []):=by
        intro i
        induction i with
       |zero => intro _; rw [f2]; exact base
       |succ i ih =>
          intro hi
          exact on_step (ih (by omega)) (f3 i (by omega)) (by omega) (by have:=f3 (i + 1) hi; rwa [show (40 : Int) * ((i + 1 : Nat) : Int) = 40 * (i : Int) + 40 by omega] at this) (f4 i (by omega)) (r5 i (by omega))
      have hnv : ∀ c, m + 1 + c ≤ l.length → Nv (rows.getD (m + 1 + c) []):=by
        intro c
        induction c with
       |zero => intro _; exact nv_first (fon m (Nat.le_refl _)) f5 (r5 m m1)
       |succ c ih => intro hc; exact nv_step (ih (by omega)) (r5 (m + 1 + c) (by omega))
      have h:=hnv (l.length - (m + 1)) (by omega)
      rw [show m + 1 + (l.length - (m + 1)) = l.length by omega] at h
      have:=law_l2n l u d tg rows _ h 0 (by omega)
      rw [h.1]
      exact this
  · intro n hn ih hs
    refine Evt.succ ?_
    simp only [gridhalllaw3_RampNearest.l1, rdx, rdi, wn n (by omega)]
    refine Evt.ite_pos (by omega) (Evt.ite_pos (by omega) (Evt.ite_pos (by omega) (Evt.ite_pos (by omega) (Evt.ite (fun _ => Evt.pure _) fun c => ih fun m hm => ?_))))
    by_cases e : m = n
    · subst e
      unfold mx at c
      split at c <;> split at c <;> omega
    · exact hs m (by omega)
theorem law_l0 (b u d : Int) (l : List S97) (tg : List Int) (hl : tg.length < 140737488355328) (R : List Int × Int × Int) (w : Int) (hw : w ≠ 0) (p1 : R.1 = []) (p2 : R.2.1 = 0) (p3 : R.2.2 = w) : ∀ n, n ≤ tg.length → Evt (fun k => gridhalllaw3_RampNearest.l0 k l b u d tg R.1 R.2.1 R.2.2 w tg (tg.length : Int) (n : Int)) true := by
  refine down ?_ ?_
  · refine Evt.succ ?_
    simp only [gridhalllaw3_RampNearest.l0, p1, p2]
    exact Evt.ite_neg (by omega) (Evt.ite_neg hw (Evt.ite_pos p3 (Evt.ite_pos (by simp) (Evt.of_eq (by simp)))))
  · intro n hn ih
    refine Evt.succ ?_
    simp only [gridhalllaw3_RampNearest.l0, wrap64_nat (n:=n) (by omega)]
    exact Evt.ite_pos (by omega) (Evt.ite_pos (by omega) (Evt.ite_pos (by omega) (Evt.ite_neg hw ih)))
theorem law_l0z (b u d : Int) (l : List S97) (tg : List Int) (hl : tg.length ≤ 1000) (R : List Int × Int × Int) (bad : (∃ m, m < tg.length ∧ ¬ okT (tg.getD m 0)) → R = ([], 0, 4))
    (fine : (∀ m, m < tg.length → okT (tg.getD m 0)) → Evt (fun k => gridhalllaw3_RampNearest.l1 k l b u d tg R.1 R.2.1 R.2.2 l (l.length : Int) 0) true) : ∀ n, n ≤ tg.length → (∀ m, m < n → okT (tg.getD m 0)) → Evt (fun k => gridhalllaw3_RampNearest.l0 k l b u d tg R.1 R.2.1 R.2.2 0 tg (tg.length : Int) (n : Int)) true:=by
  refine down ?_ ?_
  · intro h
    refine Evt.succ ?_
    simp only [gridhalllaw3_RampNearest.l0]
    exact Evt.ite_neg (by omega) (Evt.ite_pos (by simp) (fine h))
  · intro n hn ih h
    refine Evt.succ ?_
    simp only [gridhalllaw3_RampNearest.l0, in_eq, Option.bind_some, decide_eq_true_eq, rdi, wn n (by omega)]
    refine Evt.ite_pos (by omega) (Evt.ite_pos (by omega) (Evt.ite_pos (by omega) (Evt.ite_pos (by simp) (Evt.ite (fun c => ih fun m hm => ?_) fun c => ?_))))
    · by_cases e : m = n
      · subst e; exact c
      · exact h m (by omega)
    · have e:=bad ⟨n, hn, c⟩
      exact law_l0 b u d l tg (by omega) R 4 (by omega) (by rw [e]) (by rw [e]) (by rw [e]) (n + 1) (by omega)
theorem law_j1 (b u d : Int) (l : List S97) (tg : List Int) (R : List Int × Int × Int) (w : Int) (c : Bool) (h : Evt (fun k => gridhalllaw3_RampNearest.l0 k l b u d tg R.1 R.2.1 R.2.2 (if c = true then 3 else w) tg (tg.length : Int) 0) true) : Evt (fun k => gridhalllaw3_RampNearest.j1 k l b u d tg R.1 R.2.1 R.2.2 w c) true := by
  refine Evt.succ ?_
  simp only [gridhalllaw3_RampNearest.j1]
  refine Evt.ite (fun q => Evt.succ ?_) fun q => Evt.succ ?_
  · simp only [gridhalllaw3_RampNearest.j2]
    rwa [if_pos q] at h
  · simp only [gridhalllaw3_RampNearest.j2]
    rwa [if_neg q] at h
theorem law_j0 (b u d : Int) (l : List S97) (tg : List Int) (hl : tg.length < 140737488355328) : Evt (fun k => gridhalllaw3_RampNearest.j0 k l b u d tg false) true := by
  obtain ⟨e, e1, e2, e3⟩:=err_ev b u d l
  refine Evt.succ ?_
  simp only [gridhalllaw3_RampNearest.j0]
  refine Evt.ite_neg (by simp) ?_
  by_cases c : e = 0
  · obtain ⟨c1, c2, c3⟩:=e3 c
    by_cases q : tg.length = l.length
    · obtain ⟨R, r1, r2, r3⟩:=near_l0 b u d l tg c1 c2 c3 q 0 (by omega) (fun m hm => by omega)
      have hN : Evt (fun k => ramp_Nearest.f k l b u d tg) R:=by
        simp only [ramp_Nearest.f]
        exact Evt.bind e1 (Evt.ite_pos c (Evt.ite_pos (by omega) r1))
      refine Evt.bind hN (Evt.bind e2 (Evt.bind e1 (Evt.ite_pos (by simp) (Evt.ite_pos c (law_j1 b u d l tg R e _ ?_)))))
      rw [if_neg (by simp; omega), c]
      exact law_l0z b u d l tg (by omega) R r2 (fun h => law_l1 b u d l tg c1 c2 c3 q h R (r3 h) 0 (by omega) (fun m hm => by omega)) 0 (by omega) (fun m hm => by omega)
    · have hN : Evt (fun k => ramp_Nearest.f k l b u d tg) ([], 0, 3):=by
        simp only [ramp_Nearest.f]
        exact Evt.bind e1 (Evt.ite_pos c (Evt.ite_neg (by omega) (Evt.pure _)))
      refine Evt.bind hN (Evt.bind e2 (Evt.bind e1 (Evt.ite_pos (by simp) (Evt.ite_pos c (law_j1 b u d l tg ([], 0, 3) e _ ?_)))))
      rw [if_pos (by simp; omega)]
      exact law_l0 b u d l tg hl ([], 0, 3) 3 (by omega) rfl rfl rfl 0 (by omega)
  · have hN : Evt (fun k => ramp_Nearest.f k l b u d tg) ([], 0, e):=by
      simp only [ramp_Nearest.f]
      exact Evt.bind e1 (Evt.ite_neg c (Evt.pure _))
    refine Evt.bind hN (Evt.bind e2 (Evt.bind e1 (Evt.ite_pos (by simp) (Evt.ite_neg c (law_j1 b u d l tg ([], 0, e) e _ ?_)))))
    rw [if_neg (by simp)]
    exact law_l0 b u d l tg hl ([], 0, e) e c rfl rfl rfl 0 (by omega)
theorem near_up (l : List S97) (b u d : Int) (tg : List Int) (r : List Int × Int × Int) (K : Nat) (h : ramp_Nearest.f K l b u d tg = some r) : Evt (fun k => ramp_Nearest.f k l b u d tg) r := by
  refine ⟨K, fun k hk => ?_⟩
  obtain ⟨c, rfl⟩ : ∃ c, k = K + c:=⟨k - K, by omega⟩
  clear hk
  induction c with
 |zero => exact h
 |succ c ih => exact ramp_Nearest.mono l b u d tg (K + c) r ih
theorem open_k : ramp_Nearest.f 60 [⟨0, 40⟩, ⟨0, 40⟩] 0 10 10 [30, 15] = some ([10, 15], 20, 0) := by decide +kernel
theorem same_k : Evt (fun k => gridhallref3_SameInts.f k [10, 15] [10, 15]) true := by
  refine ⟨5, fun k hk => ?_⟩
  obtain ⟨c, rfl⟩ : ∃ c, k = c + 1 + 1 + 1:=⟨k - 3, by omega⟩
  simp [gridhallref3_SameInts.f, gridhallref3_SameInts.l0, rd, wrap64]
theorem law_f (b u d : Int) (l : List S97) (tg : List Int) (hl : tg.length < 140737488355328) : Evt (fun k => gridhalllaw3_RampNearest.f k l b u d tg) true := by
  simp only [gridhalllaw3_RampNearest.f]
  exact Evt.bind (near_up _ _ _ _ _ _ 60 open_k) (Evt.ite_pos (by simp) (Evt.ite_pos (by simp) (Evt.bind same_k (law_j0 b u d l tg hl))))
end Go.Proofs.Ytdgjelbkogfedaa.IRampNearest
