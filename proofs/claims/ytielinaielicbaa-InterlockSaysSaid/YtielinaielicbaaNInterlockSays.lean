/- Plain laws for InterlockSays. -/
import Derived.Test.YtielinaielicbaaEvs
import Derived.Test.YtielinaielicbaaHInterlockSaysy5
namespace Go.Proofs.Ytielinaielicbaa.NInterlockSays
open Go.RowKit Go.Proofs.YtielinaielicbaaW.PrintWords Go.Proofs.YtielinaielicbaaW.PrintMore Go.Proofs.Ytielinaielicbaa.Evs Go.Proofs.Ytielinaielicbaa.PInterlockSays 
set_option linter.unusedVariables false
set_option linter.unusedSimpArgs false
/-! names: the code ranges over the text's bytes -/
def okAt (s : ByteArray) (i : Nat) : Prop := (65 ≤ bt s i ∧ bt s i ≤ 90) ∨ (0 < i ∧ 48 ≤ bt s i ∧ bt s i ≤ 57)
instance (s : ByteArray) (i : Nat) : Decidable (okAt s i) := by unfold okAt; exact inferInstance
def isName (s : ByteArray) : Prop := 1 ≤ s.size ∧ s.size ≤ 8 ∧ ∀ i, i < s.size → okAt s i
instance (s : ByteArray) : Decidable (isName s) := by unfold isName; exact inferInstance
theorem namedb_t (s : ByteArray) (hs : s.size ≤ 9223372036854775806) : ∀ n, n ≤ s.size → (∀ i, n ≤ i → i < s.size → okAt s i) → Evt (fun k => interlock_named.l0 k s (bytesOf s) ((bytesOf s).length : Int) (n : Int)) (decide (1 ≤ s.size ∧ s.size ≤ 8)) := by
  refine down (P := fun n => (∀ i, n ≤ i → i < s.size → okAt s i) → Evt (fun k => interlock_named.l0 k s (bytesOf s) ((bytesOf s).length : Int) (n : Int)) (decide (1 ≤ s.size ∧ s.size ≤ 8))) ?_ ?_
  · intro _
    refine Evt.succ ?_
    simp only [interlock_named.l0, bytesOf_length]
    refine Evt.ite_neg (by omega) (Evt.ite (fun h => Evt.of_eq ?_) (fun h => Evt.of_eq ?_))
    · have := (toList_nil s).1 h
      exact (decide_eq_false (by omega)).symm
    · have : s.size ≠ 0 := fun e => h ((toList_nil s).2 e)
      exact decide_eq_decide.2 (by omega)
  · intro n hn ih h
    have ok := h n (Nat.le_refl _) hn
    have ih := ih (fun i a b => h i (by omega) b)
    refine Evt.succ ?_
    simp only [interlock_named.l0, rd_bytesOf, bytesOf_length] at ih ⊢
    refine Evt.ite_pos (by omega) (Evt.ite_pos (by omega) (Evt.ite_pos (by omega) ?_))
    rw [wrap64_nat (by omega)]
    unfold okAt at ok
    refine Evt.ite (fun h1 => Evt.ite (fun h2 => ih) (fun h2 => Evt.ite_pos (by omega) (Evt.ite_pos (by omega) (Evt.ite_pos (by omega) ih)))) (fun h1 => Evt.ite_pos (by omega) (Evt.ite_pos (by omega) (Evt.ite_pos (by omega) ih)))
theorem namedb_f (s : ByteArray) (hs : s.size ≤ 9223372036854775806) : ∀ n, n ≤ s.size → (∃ i, n ≤ i ∧ i < s.size ∧ ¬ okAt s i) → Evt (fun k => interlock_named.l0 k s (bytesOf s) ((bytesOf s).length : Int) (n : Int)) false := by
  refine down (P := fun n => (∃ i, n ≤ i ∧ i < s.size ∧ ¬ okAt s i) → Evt (fun k => interlock_named.l0 k s (bytesOf s) ((bytesOf s).length : Int) (n : Int)) false) ?_ ?_
  · rintro ⟨i, a, b, _⟩
    omega
  · intro n hn ih h
    refine Evt.succ ?_
    simp only [interlock_named.l0, rd_bytesOf, bytesOf_length] at ih ⊢
    refine Evt.ite_pos (by omega) (Evt.ite_pos (by omega) (Evt.ite_pos (by omega) ?_))
    rw [wrap64_nat (by omega)]
    by_cases ok : okAt s n
    · have ih := ih (by obtain ⟨i, a, b, c⟩ := h; exact ⟨i, by rcases Nat.lt_or_eq_of_le a with a | a; exact a; subst a; exact absurd ok c, b, c⟩)
      unfold okAt at ok
      refine Evt.ite (fun h1 => Evt.ite (fun h2 => ih) (fun h2 => Evt.ite_pos (by omega) (Evt.ite_pos (by omega) (Evt.ite_pos (by omega) ih)))) (fun h1 => Evt.ite_pos (by omega) (Evt.ite_pos (by omega) (Evt.ite_pos (by omega) ih)))
    · unfold okAt at ok
      have last : ¬ ((65 ≤ bt s n ∧ bt s n ≤ 90)) → Evt (fun k => if (n : Int) > 0 then (if bt s n ≥ 48 then (if bt s n ≤ 57 then interlock_named.l0 k s (bytesOf s) (s.size : Int) ((n + 1 : Nat) : Int) else some false) else some false) else some false) false := fun _ =>
        Evt.ite (fun h3 => Evt.ite (fun h4 => Evt.ite (fun h5 => absurd (by omega) ok) (fun _ => Evt.pure _)) (fun _ => Evt.pure _)) (fun _ => Evt.pure _)
      refine Evt.ite (fun h1 => Evt.ite (fun h2 => absurd (by omega) ok) (fun h2 => last (by omega))) (fun h1 => last (by omega))
theorem named_ev (s : ByteArray) (hs : s.size ≤ 9223372036854775806) : Evt (fun k => interlock_named.f k s) (decide (isName s)) := by
  simp only [interlock_named.f]
  refine Evt.ite_pos (by omega) ?_
  by_cases h : ∀ i, i < s.size → okAt s i
  · refine Evt.cast (namedb_t s hs 0 (by omega) (fun i _ b => h i b)) ?_
    unfold isName
    exact decide_eq_decide.2 ⟨fun a => ⟨a.1, a.2, h⟩, fun a => ⟨a.1, a.2.1⟩⟩
  · refine Evt.cast (namedb_f s hs 0 (by omega) ?_) ?_
    · refine Classical.byContradiction fun c => h fun i hi => Classical.byContradiction fun d => c ⟨i, by omega, hi, d⟩
    · exact (decide_eq_false (fun a => h a.2.2)).symm
/-! .. and the reference's -/
theorem refn_l0 (s : ByteArray) (hs : s.size ≤ 8) (h0 : 1 ≤ s.size) (hf : ¬ (48 ≤ bt s 0 ∧ bt s 0 ≤ 57)) : ∀ n, n ≤ s.size → Evt (fun k => gridhallref4_Named.l0 k s (s.size : Int) (n : Int)) (decide (∀ i, i < s.size → n ≤ i → okAt s i)) := by
  refine down (P := fun n => Evt (fun k => gridhallref4_Named.l0 k s (s.size : Int) (n : Int)) (decide (∀ i, i < s.size → n ≤ i → okAt s i))) ?_ ?_
  · refine Evt.succ ?_
    simp only [gridhallref4_Named.l0]
    exact Evt.ite_neg (by omega) (Evt.of_eq (decide_eq_true (fun i a b => by omega)).symm)
  · intro n hn ih
    refine Evt.succ ?_
    simp only [gridhallref4_Named.l0]
    refine Evt.ite_pos (by omega) (Evt.ite_pos (by omega) (Evt.ite_pos (by omega) ?_))
    rw [wrap64_nat (by omega)]
    have fine : okAt s n → decide (∀ i, i < s.size → n + 1 ≤ i → okAt s i) = decide (∀ i, i < s.size → n ≤ i → okAt s i) := fun ok => decide_eq_decide.2 ⟨fun a i b c => by
      rcases Nat.lt_or_eq_of_le c with c | c
      · exact a i b c
      · subst c; exact ok, fun a i b c => a i b (by omega)⟩
    have bad : ¬ okAt s n → false = decide (∀ i, i < s.size → n ≤ i → okAt s i) := fun ok => (decide_eq_false (fun a => ok (a n hn (Nat.le_refl _)))).symm
    have zero : n = 0 → bt s n = bt s 0 := fun e => by subst e; rfl
    have last : ¬ ((65 ≤ bt s n ∧ bt s n ≤ 90)) → Evt (fun k => if bt s n ≥ 48 then (if bt s n ≤ 57 then gridhallref4_Named.l0 k s (s.size : Int) ((n + 1 : Nat) : Int) else some false) else some false) (decide (∀ i, i < s.size → n ≤ i → okAt s i)) := fun ne =>
      Evt.ite (fun h4 => Evt.ite (fun h5 => Evt.cast ih (fine (Or.inr ⟨by rcases Nat.eq_zero_or_pos n with e | e; have := zero e; omega; exact e, by omega, by omega⟩))) (fun h5 => Evt.of_eq (bad (by unfold okAt; omega)))) (fun h4 => Evt.of_eq (bad (by unfold okAt; omega)))
    refine Evt.ite (fun h1 => Evt.ite (fun h2 => Evt.cast ih (fine (Or.inl ⟨by omega, h2⟩))) (fun h2 => last (by omega))) (fun h1 => last (by omega))
theorem refn_ev (s : ByteArray) : Evt (fun k => gridhallref4_Named.f k s) (decide (isName s)) := by
  have j0t : ¬ isName s → Evt (fun k => gridhallref4_Named.j0 k s true) (decide (isName s)) := by
    intro h
    refine Evt.succ ?_
    simp only [gridhallref4_Named.j0]
    exact Evt.ite_pos (by simp) (Evt.of_eq (decide_eq_false h).symm)
  simp only [gridhallref4_Named.f]
  by_cases h0 : s.size = 0
  · exact Evt.ite_pos (by omega) (j0t (fun h => by have := h.1; omega))
  by_cases h8 : s.size ≤ 8
  · refine Evt.ite_neg (by omega) (Evt.ite_neg (by omega) (Evt.ite_pos (by omega) ?_))
    have no : ¬ (65 ≤ bt s 0 ∧ bt s 0 ≤ 90) → ¬ isName s := fun a h => by
      have := h.2.2 0 (by omega)
      unfold okAt at this
      simp at this
      exact a this
    refine Evt.ite (fun h1 => ?_) (fun h1 => ?_)
    · by_cases h2 : bt s 0 ≤ 90
      · rw [decide_eq_true h2]
        refine Evt.succ ?_
        simp only [gridhallref4_Named.j0]
        refine Evt.ite_neg (by simp) (Evt.cast (refn_l0 s h8 (by omega) (by omega) 0 (by omega)) ?_)
        unfold isName
        exact decide_eq_decide.2 ⟨fun a => ⟨by omega, h8, fun i b => a i b (by omega)⟩, fun a i b _ => a.2.2 i b⟩
      · rw [decide_eq_false h2]
        exact j0t (no (by omega))
    · exact j0t (no (by omega))
  · exact Evt.ite_neg (by omega) (Evt.ite_pos (by omega) (j0t (fun h => h8 h.2.1)))
end Go.Proofs.Ytielinaielicbaa.NInterlockSays
