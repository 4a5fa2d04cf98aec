/- Plain laws for InterlockSays. -/
import Derived.Test.YtielinaielicbaaNInterlockSays
import Derived.Test.YtielinaielicbaaHInterlockSaysy10
namespace Go.Proofs.Ytielinaielicbaa.BInterlockSays
open Go.RowKit Go.Proofs.YtielinaielicbaaW.PrintWords Go.Proofs.YtielinaielicbaaW.PrintMore Go.Proofs.Ytielinaielicbaa.Evs Go.Proofs.Ytielinaielicbaa.PInterlockSays Go.Proofs.Ytielinaielicbaa.NInterlockSays
set_option linter.unusedVariables false
set_option linter.unusedSimpArgs false
/-! conditions -/
def nd (l : List S119) (n : Nat) : S119 := l.getD n z119
theorem rd_nd (l : List S119) (n : Nat) : rd_T119 l (n : Int) = nd l n := by simp [rd_T119, nd]
theorem rd_last {op : List Int} {m : Int} {n : Nat} (h : n = op.length) : rd (op ++ [m]) (n : Int) = m := by
  subst h
  simp [rd]
theorem wsub0 {n : Nat} (h : n ≤ 1000) : wrap64 ((n : Int) - 0) = (n : Int) := by
  rw [wrap64_of (by omega) (by omega)]
  omega
theorem wsub1 {n : Nat} (hc : 1 ≤ n) (h : n ≤ 1000) : wrap64 ((n : Int) - 1) = ((n - 1 : Nat) : Int) := by
  rw [wrap64_of (by omega) (by omega)]
  omega
theorem wsub2 {n : Nat} (hc : 2 ≤ n) (h : n ≤ 1000) : wrap64 ((n : Int) - 2) = ((n - 2 : Nat) : Int) := by
  rw [wrap64_of (by omega) (by omega)]
  omega
/-- The roots of the trees so far: each begins behind the one before. -/
inductive Inv (l : List S119) : Nat → List Int → Prop where
  | nil : Inv l 0 []
  | push (n st : Nat) (op : List Int) : Inv l st op → st ≤ n → Evt (fun k => gridhallref4_span.f k l (n : Int)) (st : Int) → Inv l (n + 1) (op ++ [(n : Int)])
theorem Inv.len {l : List S119} {n : Nat} {op : List Int} (h : Inv l n op) : op.length ≤ n := by
  induction h with
  | nil => simp
  | push n st op _ hs _ ih => simp; omega
theorem Inv.zero {l : List S119} {op : List Int} {n : Nat} (h : Inv l n op) : (n = 0 ↔ op = []) := by
  cases h with
  | nil => simp
  | push n st op _ _ _ => simp
theorem span_neg (l : List S119) : Evt (fun k => gridhallref4_span.f k l (-1)) (-1) := by
  refine Evt.succ ?_
  simp only [gridhallref4_span.f]
  exact Evt.ite_pos (by omega) (Evt.pure _)
theorem span_leaf {l : List S119} {n : Nat} (hn : n < l.length) (h4 : (nd l n).f0 ≠ 4) (h5 : (nd l n).f0 ≠ 5) (h6 : (nd l n).f0 ≠ 6) : Evt (fun k => gridhallref4_span.f k l (n : Int)) (n : Int) := by
  refine Evt.succ ?_
  simp only [gridhallref4_span.f, rd_nd]
  refine Evt.ite_neg (by omega) (Evt.ite_pos (by omega) (Evt.ite_pos (by omega) (Evt.ite_neg h4 (Evt.ite_neg h5 ?_))))
  rw [show ((nd l n).f0 == 6) = false by simpa using h6]
  refine Evt.succ ?_
  simp only [gridhallref4_span.j0]
  exact Evt.ite_neg (by simp) (Evt.pure _)
theorem wpredi {n : Nat} (h : n ≤ 1000) : wrap64 ((n : Int) - 1) = (n : Int) - 1 := wrap64_of (by omega) (by omega)
theorem span_not {l : List S119} {n : Nat} (hl : l.length ≤ 40) (hn : n < l.length) (h4 : (nd l n).f0 = 4) {v : Int} (h : if (nd l n).f2 = (n : Int) - 1 then Evt (fun k => gridhallref4_span.f k l ((n : Int) - 1)) v else v = -1) : Evt (fun k => gridhallref4_span.f k l (n : Int)) v := by
  refine Evt.succ ?_
  simp only [gridhallref4_span.f, rd_nd]
  refine Evt.ite_neg (by omega) (Evt.ite_pos (by omega) (Evt.ite_pos (by omega) (Evt.ite_pos h4 ?_)))
  rw [wpredi (n := n) (by omega)]
  by_cases c : (nd l n).f2 = (n : Int) - 1
  · rw [if_pos c] at h
    exact Evt.ite_pos c (Evt.bind (by rw [c]; exact h) (Evt.pure _))
  · rw [if_neg c] at h
    exact Evt.ite_neg c (Evt.of_eq h.symm)
theorem span_two {l : List S119} {n : Nat} (hl : l.length ≤ 40) (hn : n < l.length) (h5 : (nd l n).f0 = 5 ∨ (nd l n).f0 = 6) {v : Int}
    (h : if (nd l n).f3 = (n : Int) - 1 then ∃ t : Int, t ≤ 1000 ∧ -1000 ≤ t ∧ Evt (fun k => gridhallref4_span.f k l ((n : Int) - 1)) t ∧ (if t < 1 then v = -1 else if (nd l n).f2 = t - 1 then Evt (fun k => gridhallref4_span.f k l (t - 1)) v else v = -1) else v = -1) : Evt (fun k => gridhallref4_span.f k l (n : Int)) v := by
  have main : Evt (fun k => gridhallref4_span.j0 k l (n : Int) true (nd l n).f0 (nd l n).f1 (nd l n).f2 (nd l n).f3) v := by
    refine Evt.succ ?_
    simp only [gridhallref4_span.j0]
    refine Evt.ite_pos (by simp) ?_
    rw [wpredi (n := n) (by omega)]
    by_cases c : (nd l n).f3 = (n : Int) - 1
    · rw [if_pos c] at h
      obtain ⟨t, ht, ht2, ET, h⟩ := h
      refine Evt.ite_pos c (Evt.bind (by rw [c]; exact ET) ?_)
      by_cases c1 : t < 1
      · rw [if_pos c1] at h
        exact Evt.ite_pos c1 (Evt.of_eq h.symm)
      · rw [if_neg c1] at h
        refine Evt.ite_neg c1 ?_
        rw [wrap64_of (x := t - 1) (by omega) (by omega)]
        by_cases c2 : (nd l n).f2 = t - 1
        · rw [if_pos c2] at h
          exact Evt.ite_pos c2 (Evt.bind (by rw [c2]; exact h) (Evt.pure _))
        · rw [if_neg c2] at h
          exact Evt.ite_neg c2 (Evt.of_eq h.symm)
    · rw [if_neg c] at h
      exact Evt.ite_neg c (Evt.of_eq h.symm)
  refine Evt.succ ?_
  simp only [gridhallref4_span.f, rd_nd]
  refine Evt.ite_neg (by omega) (Evt.ite_pos (by omega) (Evt.ite_pos (by omega) (Evt.ite_neg (by omega) ?_)))
  rcases h5 with h5 | h5
  · refine Evt.ite_pos h5 ?_
    rw [show ((nd l n).f0 == 5) = true by simpa using h5]
    exact main
  · refine Evt.ite_neg (by omega) ?_
    rw [show ((nd l n).f0 == 6) = true by simpa using h5]
    exact main
/-- arity -/
def many (k : Int) : Int := if k = 0 ∨ k = 1 ∨ k = 2 ∨ k = 3 then 0 else if k = 4 then 1 else if k = 5 ∨ k = 6 then 2 else -1
theorem arity_ev (x : Int) : Evt (fun k => interlock_arity.f k x) (many x, decide (x = 2 ∨ x = 3)) := by
  have j1 : ¬ (x = 0 ∨ x = 1) → ∀ b, b = decide (x = 2 ∨ x = 3) → Evt (fun k => interlock_arity.j1 k x b) (many x, decide (x = 2 ∨ x = 3)) := by
    intro h b hb
    refine Evt.succ ?_
    simp only [interlock_arity.j1]
    by_cases h2 : x = 2 ∨ x = 3
    · rw [hb, decide_eq_true h2]
      exact Evt.ite_pos (by simp) (Evt.of_eq (by unfold many; rw [if_pos (by omega)]))
    · rw [hb, decide_eq_false h2]
      refine Evt.ite_neg (by simp) ?_
      refine Evt.ite (fun h4 => Evt.of_eq (by subst h4; rfl)) (fun h4 => Evt.ite (fun h5 => Evt.of_eq (by subst h5; rfl)) (fun h5 => Evt.ite (fun h6 => Evt.of_eq (by subst h6; rfl)) (fun h6 => Evt.of_eq ?_)))
      unfold many
      rw [if_neg (show ¬ (x = 0 ∨ x = 1 ∨ x = 2 ∨ x = 3) by omega), if_neg h4, if_neg (show ¬ (x = 5 ∨ x = 6) by omega)]
  have j0 : ∀ b, b = decide (x = 0 ∨ x = 1) → Evt (fun k => interlock_arity.j0 k x b) (many x, decide (x = 2 ∨ x = 3)) := by
    intro b hb
    refine Evt.succ ?_
    simp only [interlock_arity.j0]
    by_cases h0 : x = 0 ∨ x = 1
    · rw [hb, decide_eq_true h0]
      exact Evt.ite_pos (by simp) (Evt.of_eq (by unfold many; rw [if_pos (by omega), decide_eq_false (by omega)]))
    · rw [hb, decide_eq_false h0]
      refine Evt.ite_neg (by simp) (Evt.ite (fun h2 => j1 h0 _ ?_) (fun h2 => j1 h0 _ ?_))
      · rw [decide_eq_true (by omega)]; simpa using h2
      · by_cases h3 : x = 3
        · rw [decide_eq_true (by omega)]; simpa using h3
        · rw [decide_eq_false (by omega)]; simpa using h3
  simp only [interlock_arity.f]
  refine Evt.ite (fun h => j0 _ ?_) (fun h => j0 _ ?_)
  · rw [decide_eq_true (by omega)]; simpa using h
  · by_cases h3 : x = 1
    · rw [decide_eq_true (by omega)]; simpa using h3
    · rw [decide_eq_false (by omega)]; simpa using h3
/-- What a node that is accepted satisfies. -/
def okNode (l : List S119) (n : Nat) : Prop := (0 ≤ (nd l n).f0 ∧ (nd l n).f0 ≤ 6) ∧ ((nd l n).f0 = 4 ∨ (nd l n).f0 = 5 ∨ (nd l n).f0 = 6 → 0 ≤ (nd l n).f2 ∧ (nd l n).f2 < n) ∧ ((nd l n).f0 = 5 ∨ (nd l n).f0 = 6 → 0 ≤ (nd l n).f3 ∧ (nd l n).f3 < n)
abbrev CL (k : Nat) (op : List Int) (l : List S119) (n : Nat) := interlock_condition.l0 k op l (l.length : Int) (n : Int)
abbrev RL (k : Nat) (l : List S119) (n : Nat) := gridhallref4_ConditionError.l0 k l l (l.length : Int) (n : Int)
/-- One node: both refuse it alike, or both go on. -/
def Step (l : List S119) (op : List Int) (n : Nat) : Prop :=
  (∃ e, e ≠ 0 ∧ Evt (fun k => CL k op l n) e ∧ Evt (fun k => RL k l n) e) ∨
  ∃ op', Inv l (n + 1) op' ∧ okNode l n ∧ (∀ r, Evt (fun k => CL k op' l (n + 1)) r → Evt (fun k => CL k op l n) r) ∧ (∀ r, Evt (fun k => RL k l (n + 1)) r → Evt (fun k => RL k l n) r)
/-- The code's node. -/
theorem code_node {l : List S119} (hl : l.length ≤ 40) {op : List Int} {n : Nat} (hn : n < l.length) (hs : ∀ j, j < l.length → (nd l j).f1.size ≤ 9223372036854775806) {r : Int}
    (h : if many (nd l n).f0 < 0 then r = 1 else if ((nd l n).f0 = 2 ∨ (nd l n).f0 = 3) ∧ ¬ isName (nd l n).f1 then r = 6 else
      Evt (fun k => interlock_condition.j2 k op (n : Int) (many (nd l n).f0) l (l.length : Int) (n : Int) (decide ((¬ ((nd l n).f0 = 2 ∨ (nd l n).f0 = 3) ∧ (nd l n).f1.toList ≠ []) ∨ (many (nd l n).f0 < 1 ∧ (nd l n).f2 ≠ 0) ∨ (many (nd l n).f0 < 2 ∧ (nd l n).f3 ≠ 0) ∨ (op.length : Int) < many (nd l n).f0)) (nd l n).f0 (nd l n).f1 (nd l n).f2 (nd l n).f3) r) : Evt (fun k => CL k op l n) r := by
  refine Evt.succ ?_
  simp only [CL, interlock_condition.l0, rd_nd]
  refine Evt.ite_pos (by omega) (Evt.ite_pos (by omega) (Evt.ite_pos (by omega) (Evt.bind (arity_ev _) ?_)))
  by_cases c : many (nd l n).f0 < 0
  · rw [if_pos c] at h
    exact Evt.ite_pos c (Evt.of_eq h.symm)
  rw [if_neg c] at h
  refine Evt.ite_neg c ?_
  generalize hmm : many (nd l n).f0 = mm at *
  have low : ∀ b : Bool, (b = true ↔ (nd l n).f0 = 2 ∨ (nd l n).f0 = 3) → Evt (fun k => interlock_condition.j2 k op (n : Int) mm l (l.length : Int) (n : Int) (decide ((¬ ((nd l n).f0 = 2 ∨ (nd l n).f0 = 3) ∧ (nd l n).f1.toList ≠ []) ∨ (mm < 1 ∧ (nd l n).f2 ≠ 0) ∨ (mm < 2 ∧ (nd l n).f3 ≠ 0) ∨ (op.length : Int) < mm)) (nd l n).f0 (nd l n).f1 (nd l n).f2 (nd l n).f3) r →
      Evt (fun k => interlock_condition.j1 k op (n : Int) mm b l (l.length : Int) (n : Int) false (nd l n).f0 (nd l n).f1 (nd l n).f2 (nd l n).f3) r := by
    intro b hb H
    have go : ∀ p : Bool, (p = true ↔ (¬ ((nd l n).f0 = 2 ∨ (nd l n).f0 = 3) ∧ (nd l n).f1.toList ≠ []) ∨ (mm < 1 ∧ (nd l n).f2 ≠ 0) ∨ (mm < 2 ∧ (nd l n).f3 ≠ 0) ∨ (op.length : Int) < mm) → Evt (fun k => interlock_condition.j2 k op (n : Int) mm l (l.length : Int) (n : Int) p (nd l n).f0 (nd l n).f1 (nd l n).f2 (nd l n).f3) r := by
      intro p hp
      have : p = decide ((¬ ((nd l n).f0 = 2 ∨ (nd l n).f0 = 3) ∧ (nd l n).f1.toList ≠ []) ∨ (mm < 1 ∧ (nd l n).f2 ≠ 0) ∨ (mm < 2 ∧ (nd l n).f3 ≠ 0) ∨ (op.length : Int) < mm) := by
        cases p with
        | true => exact (decide_eq_true (hp.1 rfl)).symm
        | false => exact (decide_eq_false (fun x => by have := hp.2 x; simp at this)).symm
      rw [this]
      exact H
    have go1 : ¬ (¬ ((nd l n).f0 = 2 ∨ (nd l n).f0 = 3) ∧ (nd l n).f1.toList ≠ []) → ((mm < 1 ∧ (nd l n).f2 ≠ 0) ∨ (mm < 2 ∧ (nd l n).f3 ≠ 0)) → Evt (fun k => interlock_condition.j2 k op (n : Int) mm l (l.length : Int) (n : Int) true (nd l n).f0 (nd l n).f1 (nd l n).f2 (nd l n).f3) r :=
      fun _ y => go true ⟨fun _ => by rcases y with y | y; exact Or.inr (Or.inl y); exact Or.inr (Or.inr (Or.inl y)), fun _ => rfl⟩
    have go2 : ¬ (¬ ((nd l n).f0 = 2 ∨ (nd l n).f0 = 3) ∧ (nd l n).f1.toList ≠ []) → ¬ (mm < 1 ∧ (nd l n).f2 ≠ 0) → ¬ (mm < 2 ∧ (nd l n).f3 ≠ 0) → Evt (fun k => interlock_condition.j2 k op (n : Int) mm l (l.length : Int) (n : Int) (decide ((op.length : Int) < mm)) (nd l n).f0 (nd l n).f1 (nd l n).f2 (nd l n).f3) r :=
      fun x y z => go _ ⟨fun h => Or.inr (Or.inr (Or.inr (of_decide_eq_true h))), fun h => by
        rcases h with h | h | h | h
        · exact absurd h x
        · exact absurd h y
        · exact absurd h z
        · exact decide_eq_true h⟩
    have both : ¬ (¬ ((nd l n).f0 = 2 ∨ (nd l n).f0 = 3) ∧ (nd l n).f1.toList ≠ []) → Evt (fun k => (if mm < 1 then (if (nd l n).f2 = 0 then (if mm < 2 then (if (nd l n).f3 = 0 then (interlock_condition.j2 k op (n : Int) mm l (l.length : Int) (n : Int) (decide ((op.length : Int) < mm)) (nd l n).f0 (nd l n).f1 (nd l n).f2 (nd l n).f3) else (interlock_condition.j2 k op (n : Int) mm l (l.length : Int) (n : Int) true (nd l n).f0 (nd l n).f1 (nd l n).f2 (nd l n).f3)) else (interlock_condition.j2 k op (n : Int) mm l (l.length : Int) (n : Int) (decide ((op.length : Int) < mm)) (nd l n).f0 (nd l n).f1 (nd l n).f2 (nd l n).f3)) else (interlock_condition.j2 k op (n : Int) mm l (l.length : Int) (n : Int) true (nd l n).f0 (nd l n).f1 (nd l n).f2 (nd l n).f3)) else (if mm < 2 then (if (nd l n).f3 = 0 then (interlock_condition.j2 k op (n : Int) mm l (l.length : Int) (n : Int) (decide ((op.length : Int) < mm)) (nd l n).f0 (nd l n).f1 (nd l n).f2 (nd l n).f3) else (interlock_condition.j2 k op (n : Int) mm l (l.length : Int) (n : Int) true (nd l n).f0 (nd l n).f1 (nd l n).f2 (nd l n).f3)) else (interlock_condition.j2 k op (n : Int) mm l (l.length : Int) (n : Int) (decide ((op.length : Int) < mm)) (nd l n).f0 (nd l n).f1 (nd l n).f2 (nd l n).f3)))) r := fun x =>
      Evt.ite (fun a1 => Evt.ite (fun a2 => Evt.ite (fun a3 => Evt.ite (fun a4 => go2 x (by omega) (by omega)) (fun a4 => go1 x (by omega))) (fun a3 => go2 x (by omega) (by omega))) (fun a2 => go1 x (by omega))) (fun a1 => Evt.ite (fun a3 => Evt.ite (fun a4 => go2 x (by omega) (by omega)) (fun a4 => go1 x (by omega))) (fun a3 => go2 x (by omega) (by omega)))
    refine Evt.succ ?_
    simp only [interlock_condition.j1]
    refine Evt.ite_neg (by simp) (Evt.ite (fun h1 => both (fun x => x.1 (hb.1 h1))) (fun h1 => Evt.ite (fun a0 => both (fun x => x.2 a0)) (fun a0 => go true ⟨fun _ => Or.inl ⟨fun x => h1 (hb.2 x), a0⟩, fun _ => rfl⟩)))
  by_cases d : (nd l n).f0 = 2 ∨ (nd l n).f0 = 3
  · rw [decide_eq_true d] at *
    refine Evt.ite_pos (by simp) (Evt.bind (named_ev _ (hs n hn)) ?_)
    by_cases e : isName (nd l n).f1
    · rw [if_neg (fun x => x.2 e)] at h
      rw [decide_eq_true e]
      exact low true ⟨fun _ => d, fun _ => rfl⟩ h
    · rw [if_pos ⟨d, e⟩] at h
      rw [decide_eq_false e]
      refine Evt.succ ?_
      simp only [interlock_condition.j1]
      exact Evt.ite_pos (by simp) (Evt.of_eq h.symm)
  · rw [if_neg (fun x => d x.1)] at h
    rw [decide_eq_false d]
    exact Evt.ite_neg (by simp) (low false ⟨fun x => (by cases x), fun x => absurd x d⟩ h)
/-- The reference's node. -/
theorem ref_node {l : List S119} (hl : l.length ≤ 40) {n : Nat} (hn : n < l.length) {r : Int} {v : Int} (hv : 0 ≤ (nd l n).f0 ∧ (nd l n).f0 ≤ 6 → Evt (fun k => gridhallref4_span.f k l (n : Int)) v)
    (h : if ¬ (0 ≤ (nd l n).f0 ∧ (nd l n).f0 ≤ 6) then r = 1 else if ((nd l n).f0 = 2 ∨ (nd l n).f0 = 3) ∧ ¬ isName (nd l n).f1 then r = 6 else
      if (¬ ((nd l n).f0 = 2 ∨ (nd l n).f0 = 3) ∧ (nd l n).f1.toList ≠ []) ∨ (many (nd l n).f0 < 1 ∧ (nd l n).f2 ≠ 0) ∨ (many (nd l n).f0 < 2 ∧ (nd l n).f3 ≠ 0) ∨ v < 0 then r = 3 else Evt (fun k => RL k l (n + 1)) r) : Evt (fun k => RL k l n) r := by
  refine Evt.succ ?_
  simp only [RL, gridhallref4_ConditionError.l0, rd_nd]
  refine Evt.ite_pos (by omega) (Evt.ite_pos (by omega) (Evt.ite_pos (by omega) (Evt.bindo rfl ?_)))
  by_cases c : 0 ≤ (nd l n).f0 ∧ (nd l n).f0 ≤ 6
  · rw [if_neg (fun x => x c)] at h
    have hv := hv c
    refine Evt.ite_neg (by omega) ?_
    rw [decide_eq_false (by omega)]
    refine Evt.succ ?_
    simp only [gridhallref4_ConditionError.j1]
    refine Evt.ite_neg (by simp) ?_
    have hm : rd [0, 0, 0, 0, 1, 2, 2] (nd l n).f0 = many (nd l n).f0 := by
      generalize (nd l n).f0 = x at c
      have : x = 0 ∨ x = 1 ∨ x = 2 ∨ x = 3 ∨ x = 4 ∨ x = 5 ∨ x = 6 := by omega
      rcases this with rfl | rfl | rfl | rfl | rfl | rfl | rfl <;> rfl
    have w1 : Evt (fun k => gridhallref4_ConditionError.l0 k l l (l.length : Int) (wrap64 ((n : Int) + 1))) r → Evt (fun k => RL k l (n + 1)) r := fun x => by
      rw [wrap64_nat (by omega)] at x
      exact x
    have tail : ∀ nm : Bool, (nm = true ↔ ((nd l n).f0 = 2 ∨ (nd l n).f0 = 3)) → (if (¬ ((nd l n).f0 = 2 ∨ (nd l n).f0 = 3) ∧ (nd l n).f1.toList ≠ []) ∨ (many (nd l n).f0 < 1 ∧ (nd l n).f2 ≠ 0) ∨ (many (nd l n).f0 < 2 ∧ (nd l n).f3 ≠ 0) ∨ v < 0 then r = 3 else Evt (fun k => RL k l (n + 1)) r) →
        Evt (fun k => gridhallref4_ConditionError.j3 k l (n : Int) [0, 0, 0, 0, 1, 2, 2] nm l (l.length : Int) (n : Int) false (nd l n).f0 (nd l n).f1 (nd l n).f2 (nd l n).f3) r := by
      intro nm hnm H
      refine Evt.succ ?_
      simp only [gridhallref4_ConditionError.j3, hm]
      rw [wrap64_nat (n := n) (by omega)]
      generalize many (nd l n).f0 = mm at *
      have yes : ((¬ ((nd l n).f0 = 2 ∨ (nd l n).f0 = 3) ∧ (nd l n).f1.toList ≠ []) ∨ (mm < 1 ∧ (nd l n).f2 ≠ 0) ∨ (mm < 2 ∧ (nd l n).f3 ≠ 0) ∨ v < 0) → 3 = r := fun x => by rw [if_pos x] at H; exact H.symm
      have no : ¬ ((¬ ((nd l n).f0 = 2 ∨ (nd l n).f0 = 3) ∧ (nd l n).f1.toList ≠ []) ∨ (mm < 1 ∧ (nd l n).f2 ≠ 0) ∨ (mm < 2 ∧ (nd l n).f3 ≠ 0) ∨ v < 0) → Evt (fun k => RL k l (n + 1)) r := fun x => by rw [if_neg x] at H; exact H
      refine Evt.ite_neg (by simp) (Evt.ite (fun h1 => ?_) (fun h1 => ?_))
      · have h1 := hnm.1 h1
        refine Evt.ite_pos (by omega) (Evt.ite_pos (by simp; omega) ?_)
        have a0' : ¬ (¬ ((nd l n).f0 = 2 ∨ (nd l n).f0 = 3) ∧ (nd l n).f1.toList ≠ []) := fun x => x.1 h1
        have yes := fun x => yes (Or.inr x)
        have no : ¬ ((mm < 1 ∧ (nd l n).f2 ≠ 0) ∨ (mm < 2 ∧ (nd l n).f3 ≠ 0) ∨ v < 0) → Evt (fun k => RL k l (n + 1)) r := fun x => no (fun y => by rcases y with y | y; exact a0' y; exact x y)
        refine Evt.ite (fun a1 => Evt.ite (fun a2 => Evt.ite (fun a3 => Evt.ite (fun a4 => ?_) (fun a4 => ?_)) (fun a3 => ?_)) (fun a2 => ?_)) (fun a1 => Evt.ite (fun a3 => Evt.ite (fun a4 => ?_) (fun a4 => ?_)) (fun a3 => ?_))
        · exact Evt.bind hv (Evt.ite (fun b => Evt.of_eq (yes (by omega))) (fun b => no (by omega)))
        · exact Evt.of_eq (yes (by omega))
        · exact Evt.bind hv (Evt.ite (fun b => Evt.of_eq (yes (by omega))) (fun b => no (by omega)))
        · exact Evt.of_eq (yes (by omega))
        · exact Evt.bind hv (Evt.ite (fun b => Evt.of_eq (yes (by omega))) (fun b => no (by omega)))
        · exact Evt.of_eq (yes (by omega))
        · exact Evt.bind hv (Evt.ite (fun b => Evt.of_eq (yes (by omega))) (fun b => no (by omega)))
      · have h1 : ¬ ((nd l n).f0 = 2 ∨ (nd l n).f0 = 3) := fun x => h1 (hnm.2 x)
        refine Evt.ite (fun a0 => ?_) (fun a0 => Evt.of_eq (yes (Or.inl ⟨h1, a0⟩)))
        have a0' : ¬ (¬ ((nd l n).f0 = 2 ∨ (nd l n).f0 = 3) ∧ (nd l n).f1.toList ≠ []) := fun x => x.2 a0
        refine Evt.ite_pos (by omega) (Evt.ite_pos (by simp; omega) ?_)
        have yes := fun x => yes (Or.inr x)
        have no : ¬ ((mm < 1 ∧ (nd l n).f2 ≠ 0) ∨ (mm < 2 ∧ (nd l n).f3 ≠ 0) ∨ v < 0) → Evt (fun k => RL k l (n + 1)) r := fun x => no (fun y => by rcases y with y | y; exact a0' y; exact x y)
        refine Evt.ite (fun a1 => Evt.ite (fun a2 => Evt.ite (fun a3 => Evt.ite (fun a4 => ?_) (fun a4 => ?_)) (fun a3 => ?_)) (fun a2 => ?_)) (fun a1 => Evt.ite (fun a3 => Evt.ite (fun a4 => ?_) (fun a4 => ?_)) (fun a3 => ?_))
        · exact Evt.bind hv (Evt.ite (fun b => Evt.of_eq (yes (by omega))) (fun b => no (by omega)))
        · exact Evt.of_eq (yes (by omega))
        · exact Evt.bind hv (Evt.ite (fun b => Evt.of_eq (yes (by omega))) (fun b => no (by omega)))
        · exact Evt.of_eq (yes (by omega))
        · exact Evt.bind hv (Evt.ite (fun b => Evt.of_eq (yes (by omega))) (fun b => no (by omega)))
        · exact Evt.of_eq (yes (by omega))
        · exact Evt.bind hv (Evt.ite (fun b => Evt.of_eq (yes (by omega))) (fun b => no (by omega)))
    by_cases d : (nd l n).f0 = 2 ∨ (nd l n).f0 = 3
    · have j2 : Evt (fun k => gridhallref4_ConditionError.j2 k l (n : Int) [0, 0, 0, 0, 1, 2, 2] true l (l.length : Int) (n : Int) (nd l n).f0 (nd l n).f1 (nd l n).f2 (nd l n).f3) r := by
        refine Evt.succ ?_
        simp only [gridhallref4_ConditionError.j2]
        refine Evt.ite_pos (by simp) (Evt.bind (refn_ev _) ?_)
        by_cases e : isName (nd l n).f1
        · rw [if_neg (fun x => x.2 e)] at h
          rw [decide_eq_true e]
          exact tail true ⟨fun _ => d, fun _ => rfl⟩ h
        · rw [if_pos ⟨d, e⟩] at h
          rw [decide_eq_false e]
          refine Evt.succ ?_
          simp only [gridhallref4_ConditionError.j3]
          exact Evt.ite_pos (by simp) (Evt.of_eq h.symm)
      refine Evt.ite (fun _ => j2) (fun x => ?_)
      rw [show ((nd l n).f0 == 3) = true by simp; omega]
      exact j2
    · refine Evt.ite_neg (by omega) ?_
      rw [show ((nd l n).f0 == 3) = false by simp; omega]
      refine Evt.succ ?_
      simp only [gridhallref4_ConditionError.j2]
      rw [if_neg (fun x => d x.1)] at h
      exact Evt.ite_neg (by simp) (tail false ⟨fun x => (by cases x), fun x => absurd x d⟩ h)
  · rw [if_pos c] at h
    have bad : Evt (fun k => gridhallref4_ConditionError.j1 k l (n : Int) [0, 0, 0, 0, 1, 2, 2] l (l.length : Int) (n : Int) true (nd l n).f0 (nd l n).f1 (nd l n).f2 (nd l n).f3) r := by
      refine Evt.succ ?_
      simp only [gridhallref4_ConditionError.j1]
      exact Evt.ite_pos (by simp) (Evt.of_eq h.symm)
    refine Evt.ite (fun _ => bad) (fun x => ?_)
    rw [decide_eq_true (by omega)]
    exact bad
end Go.Proofs.Ytielinaielicbaa.BInterlockSays
