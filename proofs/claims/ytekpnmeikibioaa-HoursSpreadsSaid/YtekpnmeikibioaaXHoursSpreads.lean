/- The library's stable sort: blocks and merges. -/
import Derived.Test.YtekpnmeikibioaaZHoursSpreads
import Derived.Test.YtekpnmeikibioaaHHoursSpreadsy8
namespace Go.Proofs.Ytekpnmeikibioaa.XHoursSpreads
open Go.RowKit Go.Proofs.YtekpnmeikibioaaW.PrintWords Go.Proofs.YtekpnmeikibioaaW.PrintMore Go.Proofs.Ytekpnmeikibioaa.Evs Go.Proofs.Ytekpnmeikibioaa.PHoursSpreads Go.Proofs.Ytekpnmeikibioaa.ZHoursSpreads
set_option linter.unusedVariables false
set_option linter.unusedSectionVars false
set_option linter.unusedSimpArgs false
/-! the stable sort: blocks, then merges -/
section
variable {lt : Int → Int → Bool} {Ok : Int → Prop} {ct : List Int} {cw : List (List Int)} {cz : List Int}
/-- A row of whole sorted blocks. -/
inductive Full (lt : Int → Int → Bool) (n : Nat) : List Int → Prop
  | nil : Full lt n []
  | snoc {D l : List Int} : Full lt n D → l.length = n → Srt lt l → Full lt n (D ++ l)
/-- A row of sorted blocks, the last one perhaps short. -/
inductive Blk (lt : Int → Int → Bool) (n : Nat) : List Int → Prop
  | last {l : List Int} : l.length ≤ n → Srt lt l → Blk lt n l
  | cons {l r : List Int} : l.length = n → Srt lt l → Blk lt n r → Blk lt n (l ++ r)
theorem Full.blk {n : Nat} {D : List Int} (h : Full lt n D) : ∀ {T}, Blk lt n T → Blk lt n (D ++ T) := by
  induction h with
  | nil => exact fun h => h
  | @snoc D l _ h2 h3 ih =>
    intro T hT
    rw [List.append_assoc]
    exact ih (Blk.cons h2 h3 hT)
theorem Blk.short {n : Nat} {T : List Int} (h : Blk lt n T) (hl : T.length ≤ n) : Srt lt T := by
  cases h with
  | last _ s => exact s
  | @cons l r h1 h2 h3 =>
    rw [List.length_append] at hl
    have : r = [] := List.eq_nil_of_length_eq_zero (by omega)
    subst this
    simpa using h2
theorem Blk.take {n : Nat} {T : List Int} (h : Blk lt n T) (hl : n ≤ T.length) : ∃ l r, T = l ++ r ∧ l.length = n ∧ Srt lt l ∧ Blk lt n r := by
  cases h with
  | last h1 s => exact ⟨T, [], by simp, by omega, s, Blk.last (by simp) Srt.nil⟩
  | @cons l r h1 h2 h3 => exact ⟨l, r, rfl, h1, h2, h3⟩
theorem st_l0 (W : Weak lt) (hc : ∀ p q : Int, Ok p → Ok q → ∃ c : Int, Evt (fun k => hours_Spread_1.f p q ct cw cz) c ∧ (c < 0 ↔ lt p q = true)) {n bs : Nat} (hbs : 0 < bs) (hbs2 : bs ≤ 140737488351232) : ∀ t (D T : List Int) (a b : Nat), (∀ y ∈ D ++ T, Ok y) → T.length ≤ t → Full lt bs D → D.length = a → b = a + bs → n = (D ++ T).length → n ≤ 140737488351232 →
    ∃ D', Blk lt bs D' ∧ St lt (D ++ T) D' ∧ ∀ r, Evt (fun k => slices_stableCmpFunc_of_Spread_1.l1 k D' (n : Int) (bs : Int) ct cw cz) r → Evt (fun k => slices_stableCmpFunc_of_Spread_1.l0 k (D ++ T) (n : Int) (bs : Int) (a : Int) (b : Int) ct cw cz) r := by
  intro t
  induction t with
  | zero =>
    intro D T a b ok h1 h2 h3 h4 h5 h6
    obtain rfl : T = [] := List.eq_nil_of_length_eq_zero (by omega)
    have h5' := h5
    simp only [List.length_append, List.length_nil] at h5
    obtain ⟨N, s1, s2, H⟩ := ins_f W hc D [] [] (a := a) (b := n) h3 (by simp; omega) (fun y hy => by simp at hy) (by simp; omega)
    have ln := St.length W s2
    obtain rfl : N = [] := List.eq_nil_of_length_eq_zero ln
    refine ⟨D ++ [], h2.blk (Blk.last (by simp) Srt.nil), St.refl _, fun r hr => Evt.succ ?_⟩
    simp only [slices_stableCmpFunc_of_Spread_1.l0]
    exact Evt.ite_neg (by omega) (Evt.bind (a := D ++ []) (by simpa using H) hr)
  | succ t ih =>
    intro D T a b ok h1 h2 h3 h4 h5 h6
    have h5' := h5
    simp only [List.length_append] at h5
    by_cases c : b ≤ n
    · obtain ⟨T1, T2, rfl, hT⟩ := split_at T bs (by omega)
      simp only [List.length_append] at h1 h5
      obtain ⟨N, s1, s2, H⟩ := ins_f W hc D T1 T2 (a := a) (b := b) h3 (by omega) (fun y hy => ok y (by simp [hy])) (by rw [← h5']; exact h6)
      have ln := St.length W s2
      obtain ⟨D', g1, g2, G⟩ := ih (D ++ N) T2 b (b + bs) (fun y hy => ok y (by have := St.mem W s2 y; simp only [List.mem_append] at hy this ⊢; grind)) (by omega) (Full.snoc h2 (by omega) s1) (by rw [List.length_append]; omega) rfl (by simp only [List.length_append]; omega) h6
      refine ⟨D', g1, ?_, fun r hr => Evt.succ ?_⟩
      · have : St lt (D ++ (T1 ++ T2)) (D ++ N ++ T2) := by
          have := s2.mid D T2
          simpa using this
        exact this.trans g2
      · simp only [slices_stableCmpFunc_of_Spread_1.l0]
        rw [sadd (m := b) (n := bs) (by omega)]
        exact Evt.ite_pos (by omega) (Evt.bind (a := D ++ N ++ T2) (by simpa using H) (G r hr))
    · obtain ⟨N, s1, s2, H⟩ := ins_f W hc D T [] (a := a) (b := n) h3 (by omega) (fun y hy => ok y (by simp [hy])) (by simp only [List.append_nil]; rw [← h5']; exact h6)
      have ln := St.length W s2
      refine ⟨D ++ N, h2.blk (Blk.last (by omega) s1), (St.refl D).app s2, fun r hr => Evt.succ ?_⟩
      simp only [slices_stableCmpFunc_of_Spread_1.l0]
      exact Evt.ite_neg (by omega) (Evt.bind (a := D ++ N) (by simpa using H) hr)
theorem st_l2 (W : Weak lt) (hc : ∀ p q : Int, Ok p → Ok q → ∃ c : Int, Evt (fun k => hours_Spread_1.f p q ct cw cz) c ∧ (c < 0 ↔ lt p q = true)) {n bs : Nat} (hbs : 0 < bs) (hbs2 : bs ≤ 140737488351232) : ∀ t (D T : List Int) (a b : Nat), (∀ y ∈ D ++ T, Ok y) → T.length ≤ t → Full lt (bs * 2) D → Blk lt bs T → D.length = a → b = a + 2 * bs → n = (D ++ T).length → n ≤ 140737488351232 →
    ∃ D', Blk lt (bs * 2) D' ∧ St lt (D ++ T) D' ∧ ∀ r, Evt (fun k => slices_stableCmpFunc_of_Spread_1.l1 k D' (n : Int) ((bs * 2 : Nat) : Int) ct cw cz) r → Evt (fun k => slices_stableCmpFunc_of_Spread_1.l2 k (D ++ T) (n : Int) (bs : Int) (a : Int) (b : Int) ct cw cz) r := by
  have w1 : wrap64 (2 * (bs : Int)) = ((2 * bs : Nat) : Int) := by
    rw [wrap64_of (by omega) (by omega)]
    omega
  have w2 : wrap64 ((bs : Int) * 2) = ((bs * 2 : Nat) : Int) := by
    rw [wrap64_of (by omega) (by omega)]
    omega
  intro t
  induction t with
  | zero =>
    intro D T a b ok h1 h2 hB h3 h4 h5 h6
    obtain rfl : T = [] := List.eq_nil_of_length_eq_zero (by omega)
    simp only [List.length_append, List.length_nil] at h5
    refine ⟨D ++ [], h2.blk (Blk.last (by simp) Srt.nil), St.refl _, fun r hr => Evt.succ ?_⟩
    simp only [slices_stableCmpFunc_of_Spread_1.l2]
    rw [sadd (m := a) (n := bs) (by omega), w2]
    exact Evt.ite_neg (by omega) (Evt.ite_neg (by omega) hr)
  | succ t ih =>
    intro D T a b ok h1 h2 hB h3 h4 h5 h6
    have h5' := h5
    simp only [List.length_append] at h5
    by_cases c : b ≤ n
    · obtain ⟨L, T1, rfl, hL, sL, hB1⟩ := hB.take (by omega)
      simp only [List.length_append] at h1 h5
      obtain ⟨R, T2, rfl, hR, sR, hB2⟩ := hB1.take (by omega)
      simp only [List.length_append] at h1 h5
      obtain ⟨M, s1, s2, H⟩ := sm_f W hc (L.length + R.length) D L R T2 a (a + bs) b (by omega) h3 (by omega) (by omega) (by omega) (by omega) sL sR (by rw [← h5']; exact h6) (fun y hy => ok y (by simp only [List.mem_append, List.not_mem_nil] at hy ⊢; grind))
      have ln := St.length W s2
      simp only [List.length_append] at ln
      obtain ⟨D', g1, g2, G⟩ := ih (D ++ M) T2 b (b + 2 * bs) (fun y hy => ok y (by have := St.mem W s2 y; simp only [List.mem_append] at hy this ⊢; grind)) (by omega) (Full.snoc h2 (by omega) s1) hB2 (by rw [List.length_append]; omega) rfl (by simp only [List.length_append]; omega) h6
      refine ⟨D', g1, ?_, fun r hr => Evt.succ ?_⟩
      · have : St lt (D ++ (L ++ (R ++ T2))) (D ++ M ++ T2) := by
          have := s2.mid D T2
          simpa using this
        exact this.trans g2
      · simp only [slices_stableCmpFunc_of_Spread_1.l2]
        rw [sadd (m := a) (n := bs) (by omega), w1, sadd (m := b) (n := 2 * bs) (by omega)]
        exact Evt.ite_pos (by omega) (Evt.bind (a := D ++ M ++ T2) (by simpa using H) (G r hr))
    · by_cases d : a + bs < n
      · obtain ⟨L, R, rfl, hL, sL, hB1⟩ := hB.take (by omega)
        simp only [List.length_append] at h1 h5
        have sR := hB1.short (by omega)
        obtain ⟨M, s1, s2, H⟩ := sm_f W hc (L.length + R.length) D L R [] a (a + bs) n (by omega) h3 (by omega) (by omega) (by omega) (by omega) sL sR (by simp only [List.append_nil]; rw [← h5']; exact h6) (fun y hy => ok y (by simp only [List.mem_append, List.not_mem_nil] at hy ⊢; grind))
        have ln := St.length W s2
        simp only [List.length_append] at ln
        refine ⟨D ++ M, h2.blk (Blk.last (by omega) s1), (St.refl D).app s2, fun r hr => Evt.succ ?_⟩
        simp only [slices_stableCmpFunc_of_Spread_1.l2]
        rw [sadd (m := a) (n := bs) (by omega), w2]
        exact Evt.ite_neg (by omega) (Evt.ite_pos (by omega) (Evt.bind (a := D ++ M) (by simpa using H) hr))
      · refine ⟨D ++ T, h2.blk (Blk.last (by omega) (hB.short (by omega))), St.refl _, fun r hr => Evt.succ ?_⟩
        simp only [slices_stableCmpFunc_of_Spread_1.l2]
        rw [sadd (m := a) (n := bs) (by omega), w2]
        exact Evt.ite_neg (by omega) (Evt.ite_neg (by omega) hr)
theorem st_l1 (W : Weak lt) (hc : ∀ p q : Int, Ok p → Ok q → ∃ c : Int, Evt (fun k => hours_Spread_1.f p q ct cw cz) c ∧ (c < 0 ↔ lt p q = true)) {n : Nat} (hn : n ≤ 140737488351232) : ∀ t (bs : Nat) (x : List Int), (∀ y ∈ x, Ok y) → n ≤ bs + t → 0 < bs → n = x.length → Blk lt bs x → ∃ r, Srt lt r ∧ St lt x r ∧ Evt (fun k => slices_stableCmpFunc_of_Spread_1.l1 k x (n : Int) (bs : Int) ct cw cz) r := by
  intro t
  induction t with
  | zero =>
    intro bs x ok h1 h2 h3 h4
    refine ⟨x, h4.short (by omega), St.refl _, Evt.succ ?_⟩
    simp only [slices_stableCmpFunc_of_Spread_1.l1]
    exact Evt.ite_neg (by omega) (Evt.pure _)
  | succ t ih =>
    intro bs x ok h1 h2 h3 h4
    by_cases c : bs < n
    · have w1 : wrap64 (2 * (bs : Int)) = ((2 * bs : Nat) : Int) := by
        rw [wrap64_of (by omega) (by omega)]
        omega
      obtain ⟨D', g1, g2, G⟩ := st_l2 W hc (n := n) (bs := bs) h2 (by omega) x.length [] x 0 (2 * bs) (fun y hy => ok y (by simpa using hy)) (Nat.le_refl _) Full.nil h4 rfl (by omega) (by simpa using h3) hn
      have ln := St.length W g2
      simp only [List.nil_append] at ln g2
      obtain ⟨r, s1, s2, H⟩ := ih (bs * 2) D' (fun y hy => ok y ((St.mem W g2 y).1 hy)) (by omega) (by omega) (by omega) g1
      refine ⟨r, s1, g2.trans s2, Evt.succ ?_⟩
      simp only [slices_stableCmpFunc_of_Spread_1.l1]
      rw [w1]
      have := G r H
      simp only [List.nil_append] at this
      exact Evt.ite_pos (by omega) this
    · refine ⟨x, h4.short (by omega), St.refl _, Evt.succ ?_⟩
      simp only [slices_stableCmpFunc_of_Spread_1.l1]
      exact Evt.ite_neg (by omega) (Evt.pure _)
/-- The library's stable sort: the same elements, sorted, equal ones in their order. -/
theorem sorts (W : Weak lt) (hc : ∀ p q : Int, Ok p → Ok q → ∃ c : Int, Evt (fun k => hours_Spread_1.f p q ct cw cz) c ∧ (c < 0 ↔ lt p q = true)) (l : List Int) (ok : ∀ y ∈ l, Ok y) (hl : l.length ≤ 140737488351232) : ∃ r, Srt lt r ∧ St lt l r ∧ Evt (fun k => slices_SortStableFunc_of_Spread_1.f k l ct cw cz) r := by
  obtain ⟨D', g1, g2, G⟩ := st_l0 W hc (n := l.length) (bs := 20) (by omega) (by omega) l.length [] l 0 20 (fun y hy => ok y (by simpa using hy)) (Nat.le_refl _) Full.nil rfl (by omega) rfl hl
  have ln := St.length W g2
  simp only [List.nil_append] at ln g2
  obtain ⟨r, s1, s2, H⟩ := st_l1 W hc (n := l.length) hl l.length 20 D' (fun y hy => ok y ((St.mem W g2 y).1 hy)) (by omega) (by omega) ln.symm g1
  refine ⟨r, s1, g2.trans s2, ?_⟩
  simp only [slices_SortStableFunc_of_Spread_1.f, slices_stableCmpFunc_of_Spread_1.f]
  have := G r H
  simp only [List.nil_append] at this
  exact Evt.bind this (Evt.pure _)
end
end Go.Proofs.Ytekpnmeikibioaa.XHoursSpreads
