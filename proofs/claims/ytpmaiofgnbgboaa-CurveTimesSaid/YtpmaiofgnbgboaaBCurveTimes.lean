/- The laws of characteristics that CurveTimes uses. -/
import Derived.Test.YtpmaiofgnbgboaaEvs
import Derived.Test.YtpmaiofgnbgboaaHCurveTimesy4
namespace Go.Proofs.Ytpmaiofgnbgboaa.BCurveTimes
open Go.RowKit Go.Proofs.YtpmaiofgnbgboaaW.PrintWords Go.Proofs.YtpmaiofgnbgboaaW.PrintMore Go.Proofs.Ytpmaiofgnbgboaa.Evs Go.Proofs.Ytpmaiofgnbgboaa.PCurveTimes 
set_option linter.unusedVariables false
set_option linter.unusedSimpArgs false
/-! characteristics of relays -/
def M (l : List S76) (n : Nat) : Int := (l.getD n z76).f0
def T (l : List S76) (n : Nat) : Int := (l.getD n z76).f1
theorem rdM (l : List S76) (n : Nat) : (rd_T76 l (n : Int)).f0 = M l n := by
  simp [rd_T76, M]
theorem rdT (l : List S76) (n : Nat) : (rd_T76 l (n : Int)).f1 = T l n := by
  simp [rd_T76, T]
theorem wpred {n : Nat} (h : n ≤ 100) : wrap64 (((n + 1 : Nat) : Int) - 1) = (n : Int) := by
  rw [wrap64_of (by omega) (by omega)]
  omega
theorem wlast {n : Nat} (h1 : 1 ≤ n) (h : n ≤ 100) : wrap64 ((n : Int) - 1) = ((n - 1 : Nat) : Int) := by
  rw [wrap64_of (by omega) (by omega)]
  omega
theorem w100 {c : Int} (hc : 0 ≤ c ∧ c ≤ 1000000) : wrap64 (100 * c) = 100 * c := wrap64_of (by omega) (by omega)
def good1 (l : List S76) (n : Nat) : Prop := (100 ≤ M l n ∧ M l n ≤ 10000 ∧ 0 ≤ T l n ∧ T l n ≤ 3600000) ∧ (0 < n → M l (n - 1) < M l n ∧ T l n ≤ T l (n - 1))
theorem Check_l (l : List S76) (hl : l.length ≤ 32) : ∀ n, n ≤ l.length → ∃ e, Evt (fun k => curve_Check.l0 k l l (l.length : Int) (n : Int)) e ∧ (e = 0 → ∀ j, n ≤ j → j < l.length → good1 l j) := by
  apply down (P := fun n => ∃ e, Evt (fun k => curve_Check.l0 k l l (l.length : Int) (n : Int)) e ∧ (e = 0 → ∀ j, n ≤ j → j < l.length → good1 l j))
  · refine ⟨0, Evt.succ ?_, fun _ j h1 h2 => by omega⟩
    simp only [curve_Check.l0]
    exact Evt.ite_neg (by omega) (Evt.pure 0)
  · intro n hn ih
    obtain ⟨e, he, hg⟩ := ih
    have h4 : ∃ e4, Evt (fun k => curve_Check.j1 k l n l (l.length : Int) n true (M l n) (T l n)) e4 ∧ e4 ≠ 0 := by
      refine ⟨4, Evt.succ ?_, by decide⟩
      simp only [curve_Check.j1]
      exact Evt.ite_pos (by simp) (Evt.pure _)
    have main : ∃ e, Evt (fun k => (if (M l n) < 100 then (curve_Check.j1 k l n l (l.length : Int) n true (M l n) (T l n)) else (if (M l n) > 10000 then (curve_Check.j1 k l n l (l.length : Int) n true (M l n) (T l n)) else (if (T l n) < 0 then (curve_Check.j1 k l n l (l.length : Int) n true (M l n) (T l n)) else (curve_Check.j1 k l n l (l.length : Int) n (decide ((T l n) > 3600000)) (M l n) (T l n)))))) e ∧ (e = 0 → ∀ j, n ≤ j → j < l.length → good1 l j) := by
      obtain ⟨e4, E4, n4⟩ := h4
      by_cases c1 : M l n < 100
      · exact ⟨e4, Evt.ite_pos c1 E4, fun h => absurd h n4⟩
      by_cases c2 : M l n > 10000
      · exact ⟨e4, Evt.ite_neg c1 (Evt.ite_pos c2 E4), fun h => absurd h n4⟩
      by_cases c3 : T l n < 0
      · exact ⟨e4, Evt.ite_neg c1 (Evt.ite_neg c2 (Evt.ite_pos c3 E4)), fun h => absurd h n4⟩
      by_cases c4 : T l n > 3600000
      · exact ⟨e4, Evt.ite_neg c1 (Evt.ite_neg c2 (Evt.ite_neg c3 (by rw [decide_eq_true c4]; exact E4))), fun h => absurd h n4⟩
      have bd : 100 ≤ M l n ∧ M l n ≤ 10000 ∧ 0 ≤ T l n ∧ T l n ≤ 3600000 := by omega
      have next : (0 < n → M l (n - 1) < M l n ∧ T l n ≤ T l (n - 1)) → (e = 0 → ∀ j, n ≤ j → j < l.length → good1 l j) := by
        intro h h0 j h1 h2
        by_cases hj : j = n
        · subst hj
          exact ⟨bd, h⟩
        · exact hg h0 j (by omega) h2
      by_cases c5 : n = 0
      · subst c5
        refine ⟨e, Evt.ite_neg c1 (Evt.ite_neg c2 (Evt.ite_neg c3 ?_)), next (fun h => absurd h (by omega))⟩
        rw [decide_eq_false c4]
        refine Evt.succ ?_
        simp only [curve_Check.j1]
        refine Evt.ite_neg (by simp) (Evt.ite_neg (by simp) ?_)
        rw [wrap64_nat (n := 0) (by omega)]
        exact he
      have common : ∀ r, Evt (fun k => if M l n ≤ M l (n - 1) then some 3 else (if T l n > T l (n - 1) then some 3 else (curve_Check.l0 k l l (l.length : Int) ((n + 1 : Nat) : Int)))) r → Evt (fun k => curve_Check.j1 k l n l (l.length : Int) n (decide ((T l n) > 3600000)) (M l n) (T l n)) r := by
        intro r hr
        rw [decide_eq_false c4]
        refine Evt.succ ?_
        simp only [curve_Check.j1]
        refine Evt.ite_neg (by simp) (Evt.ite_pos (by omega) ?_)
        rw [wlast (n := n) (by omega) (by omega), wrap64_nat (n := n) (by omega), rdM l (n - 1), rdT l (n - 1)]
        exact Evt.ite_pos (by omega) (Evt.ite_pos (by omega) hr)
      by_cases c6 : M l n ≤ M l (n - 1)
      · exact ⟨3, Evt.ite_neg c1 (Evt.ite_neg c2 (Evt.ite_neg c3 (common _ (Evt.ite_pos c6 (Evt.pure _))))), fun h => absurd h (by decide)⟩
      by_cases c7 : T l n > T l (n - 1)
      · exact ⟨3, Evt.ite_neg c1 (Evt.ite_neg c2 (Evt.ite_neg c3 (common _ (Evt.ite_neg c6 (Evt.ite_pos c7 (Evt.pure _)))))), fun h => absurd h (by decide)⟩
      exact ⟨e, Evt.ite_neg c1 (Evt.ite_neg c2 (Evt.ite_neg c3 (common _ (Evt.ite_neg c6 (Evt.ite_neg c7 he))))), next (fun _ => by omega)⟩
    obtain ⟨e', E', G'⟩ := main
    refine ⟨e', Evt.succ ?_, G'⟩
    simp only [curve_Check.l0]
    rw [rdM, rdT]
    exact Evt.ite_pos (by omega) (Evt.ite_pos (by omega) (Evt.ite_pos (by omega) E'))
def valid (l : List S76) : Prop := 2 ≤ l.length ∧ l.length ≤ 32 ∧ ∀ j, j < l.length → good1 l j
theorem Check_ev (l : List S76) : ∃ e, Evt (fun k => curve_Check.f k l) e ∧ (e = 0 → valid l) := by
  simp only [curve_Check.f]
  by_cases c1 : (l.length : Int) > 32
  · exact ⟨2, Evt.ite_pos c1 (Evt.pure _), fun h => absurd h (by decide)⟩
  by_cases c2 : (l.length : Int) < 2
  · exact ⟨3, Evt.ite_neg c1 (Evt.ite_pos c2 (Evt.pure _)), fun h => absurd h (by decide)⟩
  obtain ⟨e, E, G⟩ := Check_l l (by omega) 0 (by omega)
  exact ⟨e, Evt.ite_neg c1 (Evt.ite_neg c2 E), fun h => ⟨by omega, by omega, fun j hj => G h j (by omega) hj⟩⟩
theorem M_up {l : List S76} (v : valid l) : ∀ d i, i + d < l.length → M l i ≤ M l (i + d) := by
  intro d
  induction d with
  | zero => intro i _; exact Int.le_refl _
  | succ d ih =>
    intro i h
    have h1 := ih i (by omega)
    have h2 := ((v.2.2 (i + d + 1) (by omega)).2 (by omega)).1
    rw [show i + d + 1 - 1 = i + d from rfl] at h2
    show M l i ≤ M l (i + d + 1)
    omega
theorem M_mono {l : List S76} (v : valid l) {i j : Nat} (h : i ≤ j) (hj : j < l.length) : M l i ≤ M l j := by
  obtain ⟨d, rfl⟩ : ∃ d, j = i + d := ⟨j - i, by omega⟩
  exact M_up v d i hj
theorem mul_bd {x p : Int} (hx : 0 ≤ x ∧ x ≤ 10000) (hp : 1 ≤ p ∧ p ≤ 1000000) : 0 ≤ x * p ∧ x * p ≤ 10000000000 :=
  ⟨Int.mul_nonneg hx.1 (by omega), by have := Int.mul_le_mul hx.2 hp.2 (by omega) (by omega); omega⟩
theorem half {x y : Int} (hx : 0 ≤ x) (hy : 0 ≤ y) (h : x + y ≤ 1000000) : wrap64 ((IntKind.u64.wrap (wrap64 (x + y))) / 2) = (x + y) / 2 := by
  have h1 : IntKind.u64.wrap (wrap64 (x + y)) = x + y := by
    rw [wrap64_of (by omega) (by omega)]
    simp [IntKind.wrap, IntKind.bits, IntKind.signed]
    omega
  rw [h1, wrap64_of (by omega) (by omega)]
theorem half' {i j : Nat} (h : i + j ≤ 100) : wrap64 ((IntKind.u64.wrap (wrap64 ((i : Int) + (j : Int)))) / 2) = (((i + j) / 2 : Nat) : Int) := by
  rw [half (by omega) (by omega) (by omega)]
  omega
theorem at1 {l : List S76} (v : valid l) {p m : Int} (hp : 1 ≤ p ∧ p ≤ 1000000) {n : Nat} (hn : n < l.length) : curve_at_1.f (n : Int) [l] [p] [m] = some (decide (M l n * p > m)) := by
  have e1 : rd_L2 [l] 0 = l := rfl
  have e2 : rd [p] 0 = p := rfl
  have e3 : rd [m] 0 = m := rfl
  have b := mul_bd (x := M l n) (by have := (v.2.2 n hn).1; omega) hp
  simp only [curve_at_1.f, e1, e2, e3]
  rw [if_pos (by simp), if_pos (by omega), if_pos (by omega), if_pos (by simp), if_pos (by simp), rdM, wrap64_of (by omega) (by omega)]
theorem search_l {l : List S76} (v : valid l) {p m : Int} (hp : 1 ≤ p ∧ p ≤ 1000000) : ∀ d i j : Nat, j - i ≤ d → i ≤ j → j ≤ l.length → (∀ q, q < i → M l q * p ≤ m) → (∀ q, j ≤ q → q < l.length → m < M l q * p) →
    ∃ r : Nat, Evt (fun k => sort_Search_of_at_1.l0 k (i : Int) (j : Int) [l] [p] [m]) (r : Int) ∧ r ≤ l.length ∧ (∀ q, q < r → M l q * p ≤ m) ∧ (∀ q, r ≤ q → q < l.length → m < M l q * p) := by
  intro d
  induction d with
  | zero =>
    intro i j h1 h2 h3 lo hi
    have : i = j := by omega
    subst this
    refine ⟨i, Evt.succ ?_, h3, lo, hi⟩
    simp only [sort_Search_of_at_1.l0]
    exact Evt.ite_neg (by omega) (Evt.pure _)
  | succ d ih =>
    intro i j h1 h2 h3 lo hi
    by_cases hij : i = j
    · subst hij
      refine ⟨i, Evt.succ ?_, h3, lo, hi⟩
      simp only [sort_Search_of_at_1.l0]
      exact Evt.ite_neg (by omega) (Evt.pure _)
    have hl := v.2.1
    have hm : (i + j) / 2 < l.length := by omega
    by_cases c : M l ((i + j) / 2) * p > m
    · obtain ⟨r, E, h4, h5, h6⟩ := ih i ((i + j) / 2) (by omega) (by omega) (by omega) lo (fun q a b => by
        have h7 := Int.mul_le_mul_of_nonneg_right (M_mono v a b) (by omega : 0 ≤ p)
        omega)
      refine ⟨r, Evt.succ ?_, h4, h5, h6⟩
      simp only [sort_Search_of_at_1.l0]
      refine Evt.ite_pos (by omega) ?_
      rw [half' (by omega)]
      refine Evt.bindo (at1 v hp hm) ?_
      rw [decide_eq_true c]
      exact Evt.ite_pos rfl E
    · obtain ⟨r, E, h4, h5, h6⟩ := ih ((i + j) / 2 + 1) j (by omega) (by omega) (by omega) (fun q a => by
        have h7 := Int.mul_le_mul_of_nonneg_right (M_mono v (i := q) (j := (i + j) / 2) (by omega) hm) (by omega : 0 ≤ p)
        omega) hi
      refine ⟨r, Evt.succ ?_, h4, h5, h6⟩
      simp only [sort_Search_of_at_1.l0]
      refine Evt.ite_pos (by omega) ?_
      rw [half' (by omega)]
      refine Evt.bindo (at1 v hp hm) ?_
      rw [decide_eq_false c]
      refine Evt.ite_neg (by simp) ?_
      rw [wrap64_nat (n := (i + j) / 2) (by omega)]
      exact E
/-- The time between two points, rounded up. -/
def mid (t u a b : Int) : Int := if ((t * b + u * a) / (a + b)) * (a + b) < t * b + u * a then (t * b + u * a) / (a + b) + 1 else (t * b + u * a) / (a + b)
theorem mid_eq {t u a b : Int} (h1 : u ≤ t) (h2 : 0 ≤ a) (h3 : 0 < b) (h0 : 0 ≤ u) : t - (t - u) * a / (a + b) = mid t u a b := by
  have hD : 0 < a + b := by omega
  have e0 : t * b + u * a = t * (a + b) - (t - u) * a := by
    rw [Int.sub_mul, Int.mul_add]; omega
  generalize hX : (t - u) * a = X at e0
  generalize hD2 : a + b = D at *
  have h5 := Int.emod_add_mul_ediv X D
  have h6 := Int.emod_nonneg X (by omega : D ≠ 0)
  have h7 := Int.emod_lt_of_pos X hD
  generalize hq : X / D = q at *
  generalize hr : X % D = r at *
  have e1 : t * b + u * a = (t - q) * D - r := by
    rw [e0, Int.sub_mul, ← h5, Int.mul_comm D q]; omega
  unfold mid
  rw [hD2, e1]
  by_cases hr0 : r = 0
  · subst hr0
    rw [Int.sub_zero, Int.mul_ediv_cancel _ (by omega), if_neg (by omega)]
  · have e2 : ((t - q) * D - r) / D = t - q - 1 := by
      have : (t - q) * D - r = (D - r) + (t - q - 1) * D := by
        rw [Int.sub_mul (t - q) 1 D]; omega
      rw [this, Int.add_mul_ediv_right _ _ (by omega), Int.ediv_eq_zero_of_lt (by omega) (by omega)]
      omega
    rw [e2, if_pos (by rw [Int.sub_mul (t - q) 1 D]; omega)]
    omega
/-- What the code and the reference say. -/
def Says (l : List S76) (p m : Int) (r : Option Int) : Prop :=
  (m < M l 0 * p ∧ r = none) ∨ (M l (l.length - 1) * p ≤ m ∧ r = some (T l (l.length - 1))) ∨
  ∃ n, n + 1 < l.length ∧ M l n * p ≤ m ∧ m < M l (n + 1) * p ∧ r = some (mid (T l n) (T l (n + 1)) (m - M l n * p) (M l (n + 1) * p - m))
theorem Says.uniq {l : List S76} (v : valid l) {p m : Int} (hp : 1 ≤ p) {r s : Option Int} (h1 : Says l p m r) (h2 : Says l p m s) : r = s := by
  have up : ∀ {i j : Nat}, i ≤ j → j < l.length → M l i * p ≤ M l j * p := fun a b => Int.mul_le_mul_of_nonneg_right (M_mono v a b) (by omega)
  have h0 := v.1
  rcases h1 with ⟨a, rfl⟩ | ⟨a, rfl⟩ | ⟨n, a, b, c, rfl⟩ <;> rcases h2 with ⟨a', rfl⟩ | ⟨a', rfl⟩ | ⟨n', a', b', c', rfl⟩
  · rfl
  · have := up (i := 0) (j := l.length - 1) (by omega) (by omega); omega
  · have := up (i := 0) (j := n') (by omega) (by omega); omega
  · have := up (i := 0) (j := l.length - 1) (by omega) (by omega); omega
  · rfl
  · have := up (i := n' + 1) (j := l.length - 1) (by omega) (by omega); omega
  · have := up (i := 0) (j := n) (by omega) (by omega); omega
  · have := up (i := n + 1) (j := l.length - 1) (by omega) (by omega); omega
  · have : n = n' := by
      rcases Nat.lt_trichotomy n n' with h | h | h
      · have := up (i := n + 1) (j := n') (by omega) (by omega); omega
      · exact h
      · have := up (i := n' + 1) (j := n) (by omega) (by omega); omega
    subst this
    rfl
theorem tm_bd {t x : Int} (h1 : 0 ≤ t ∧ t ≤ 3600000) (h2 : 0 ≤ x ∧ x ≤ 10000000000) : 0 ≤ t * x ∧ t * x ≤ 36000000000000000 :=
  ⟨Int.mul_nonneg h1.1 h2.1, by have := Int.mul_le_mul h1.2 h2.2 h2.1 (by omega); omega⟩
theorem at_ev {l : List S76} (v : valid l) {p c : Int} (hp : 1 ≤ p ∧ p ≤ 1000000) (hc : 0 ≤ c ∧ c ≤ 1000000) :
    ∃ t b, Evt (fun k => curve_at.f k l p c) (t, b) ∧ Says l p (100 * c) (if b = true then some t else none) ∧ (b = false → t = 0) ∧ (b = true → 0 ≤ t) := by
  have h0 := v.1
  have hl := v.2.1
  have B : ∀ {n}, n < l.length → 0 ≤ M l n * p ∧ M l n * p ≤ 10000000000 := fun h => mul_bd (by have := (v.2.2 _ h).1; omega) hp
  have e0 : (rd_T76 l 0).f0 = M l 0 := rdM l 0
  have b0 := B (n := 0) (by omega)
  simp only [curve_at.f, w100 hc, e0, wrap64_of (x := M l 0 * p) (by omega) (by omega)]
  by_cases c1 : 100 * c < M l 0 * p
  · exact ⟨0, false, Evt.ite_pos (by omega) (Evt.ite_pos c1 (Evt.pure _)), Or.inl ⟨c1, by simp⟩, fun _ => rfl, by simp⟩
  obtain ⟨r, E, h4, h5, h6⟩ := search_l v hp (m := 100 * c) l.length 0 l.length (by omega) (by omega) (by omega) (fun q h => by omega) (fun q a b => by omega)
  have hr : r ≠ 0 := fun h => by subst h; have := h6 0 (by omega) (by omega); omega
  obtain ⟨n, rfl⟩ : ∃ n, r = n + 1 := ⟨r - 1, by omega⟩
  have hS : Evt (fun k => sort_Search_of_at_1.f k (l.length : Int) [l] [p] [100 * c]) ((n + 1 : Nat) : Int) := by
    simp only [sort_Search_of_at_1.f]
    exact E
  have le := h5 n (by omega)
  have tn := (v.2.2 n (by omega)).1
  by_cases c2 : n = l.length - 1
  · refine ⟨T l n, true, Evt.ite_pos (by omega) (Evt.ite_neg c1 (Evt.bind hS ?_)), Or.inr (Or.inl ⟨by rw [← c2]; exact le, by rw [← c2]; simp⟩), by simp, fun _ => tn.2.2.1⟩
    rw [wpred (n := n) (by omega), wlast (n := l.length) (by omega) (by omega), wrap64_nat (n := n) (by omega), rdT l n]
    exact Evt.ite_pos (by omega) (Evt.ite_pos (by omega) (Evt.ite_pos (by omega) (Evt.pure _)))
  have lt := h6 (n + 1) (by omega) (by omega)
  have g2 := v.2.2 (n + 1) (by omega)
  have t2 := g2.1
  have dn := g2.2 (by omega)
  rw [Nat.add_sub_cancel] at dn
  have b1 := B (n := n) (by omega)
  have b2 := B (n := n + 1) (by omega)
  have sm : (M l (n + 1) - M l n) * p = M l (n + 1) * p - M l n * p := Int.sub_mul _ _ _
  have pb := tm_bd (t := T l n - T l (n + 1)) (x := 100 * c - M l n * p) (by omega) (by omega)
  have q1 := Int.ediv_nonneg pb.1 (by omega : 0 ≤ M l (n + 1) * p - M l n * p)
  have q2 := Int.ediv_le_self (b := M l (n + 1) * p - M l n * p) pb.1
  have q3 : (T l n - T l (n + 1)) * (100 * c - M l n * p) / (M l (n + 1) * p - M l n * p) ≤ T l n - T l (n + 1) := by
    have := Int.mul_le_mul_of_nonneg_left (c := T l n - T l (n + 1)) (by omega : 100 * c - M l n * p ≤ M l (n + 1) * p - M l n * p) (by omega)
    exact Int.ediv_le_of_le_mul (by omega) this
  refine ⟨T l n - (T l n - T l (n + 1)) * (100 * c - M l n * p) / (M l (n + 1) * p - M l n * p), true, Evt.ite_pos (by omega) (Evt.ite_neg c1 (Evt.bind hS ?_)), Or.inr (Or.inr ⟨n, by omega, le, lt, ?_⟩), by simp, fun _ => by omega⟩
  · rw [wpred (n := n) (by omega), wlast (n := l.length) (by omega) (by omega), wrap64_nat (n := n) (by omega), rdM l n, rdT l n, rdM l (n + 1), rdT l (n + 1), wrap64_of (x := M l (n + 1) - M l n) (by omega) (by omega), sm, wrap64_of (x := M l (n + 1) * p - M l n * p) (by omega) (by omega), wrap64_of (x := M l n * p) (by omega) (by omega), wrap64_of (x := T l n - T l (n + 1)) (by omega) (by omega), wrap64_of (x := 100 * c - M l n * p) (by omega) (by omega), wrap64_of (x := (T l n - T l (n + 1)) * (100 * c - M l n * p)) (by omega) (by omega), Int.tdiv_eq_ediv_of_nonneg pb.1, wrap64_of (x := (T l n - T l (n + 1)) * (100 * c - M l n * p) / (M l (n + 1) * p - M l n * p)) (by omega) (by omega), wrap64_of (x := T l n - (T l n - T l (n + 1)) * (100 * c - M l n * p) / (M l (n + 1) * p - M l n * p)) (by omega) (by omega)]
    exact Evt.ite_pos (by omega) (Evt.ite_pos (by omega) (Evt.ite_neg (by omega) (Evt.ite_pos (by omega) (Evt.ite_pos (by omega) (Evt.ite_neg (by omega) (Evt.pure _))))))
  · rw [if_pos rfl]
    congr 1
    rw [← mid_eq (by omega) (by omega) (by omega) (by omega)]
    rw [show 100 * c - M l n * p + (M l (n + 1) * p - 100 * c) = M l (n + 1) * p - M l n * p by omega]
theorem slow_base {l : List S76} (v : valid l) {p m : Int} (hp : 1 ≤ p ∧ p ≤ 1000000) (hm : 0 ≤ m ∧ m ≤ 100000000) (n : Nat) (hn : n + 1 < l.length) (le : M l n * p ≤ m) (lt : m < M l (n + 1) * p) : ∃ t, Evt (fun k => gridhallref2_Slow.l0 k l p m (n : Int)) t ∧ Says l p m (some t) ∧ 0 ≤ t := by
  have hl := v.2.1
  have b1 : 0 ≤ M l n * p ∧ M l n * p ≤ 10000000000 := mul_bd (by have := (v.2.2 n (by omega)).1; omega) hp
  have b2 : 0 ≤ M l (n + 1) * p ∧ M l (n + 1) * p ≤ 10000000000 := mul_bd (by have := (v.2.2 (n + 1) (by omega)).1; omega) hp
  have t1 := (v.2.2 n (by omega)).1
  have t2 := (v.2.2 (n + 1) (by omega)).1
  have p1 := tm_bd (t := T l n) (x := M l (n + 1) * p - m) (by omega) (by omega)
  have p2 := tm_bd (t := T l (n + 1)) (x := m - M l n * p) (by omega) (by omega)
  have hD : 0 < m - M l n * p + (M l (n + 1) * p - m) := by omega
  have hD2 : m - M l n * p + (M l (n + 1) * p - m) ≤ 10000000000 := by omega
  have hN := Int.add_nonneg p1.1 p2.1
  refine ⟨mid (T l n) (T l (n + 1)) (m - M l n * p) (M l (n + 1) * p - m), Evt.succ ?_, Or.inr (Or.inr ⟨n, hn, le, lt, rfl⟩), ?_⟩
  · simp only [gridhallref2_Slow.l0]
    rw [wrap64_nat (n := n) (by omega), rdM l n, rdT l n, rdM l (n + 1), rdT l (n + 1), wrap64_of (x := M l n * p) (by omega) (by omega), wrap64_of (x := M l (n + 1) * p) (by omega) (by omega), wrap64_of (x := m - M l n * p) (by omega) (by omega), wrap64_of (x := M l (n + 1) * p - m) (by omega) (by omega), wrap64_of (x := T l n * (M l (n + 1) * p - m)) (by omega) (by omega), wrap64_of (x := T l (n + 1) * (m - M l n * p)) (by omega) (by omega), wrap64_of (x := T l n * (M l (n + 1) * p - m) + T l (n + 1) * (m - M l n * p)) (by omega) (by omega), wrap64_of (x := m - M l n * p + (M l (n + 1) * p - m)) (by omega) (by omega), Int.tdiv_eq_ediv_of_nonneg hN]
    have q1 := Int.ediv_nonneg hN (by omega : 0 ≤ m - M l n * p + (M l (n + 1) * p - m))
    have q2 := Int.ediv_le_self (b := m - M l n * p + (M l (n + 1) * p - m)) hN
    have q3 := Int.ediv_mul_le (T l n * (M l (n + 1) * p - m) + T l (n + 1) * (m - M l n * p)) (by omega : m - M l n * p + (M l (n + 1) * p - m) ≠ 0)
    have q4 := Int.mul_nonneg q1 (by omega : 0 ≤ m - M l n * p + (M l (n + 1) * p - m))
    have q5 : (T l n * (M l (n + 1) * p - m) + T l (n + 1) * (m - M l n * p)) / (m - M l n * p + (M l (n + 1) * p - m)) ≤ 72000000000000000 := by omega
    generalize hQ : (T l n * (M l (n + 1) * p - m) + T l (n + 1) * (m - M l n * p)) / (m - M l n * p + (M l (n + 1) * p - m)) = Z at *
    rw [wrap64_of (x := Z) (by omega) (by omega), wrap64_of (x := Z * (m - M l n * p + (M l (n + 1) * p - m))) (by omega) (by omega), wrap64_of (x := Z + 1) (by omega) (by omega)]
    refine Evt.ite_pos (by omega) (Evt.ite_pos (by omega) (Evt.ite_neg (by omega) (Evt.ite_pos (by omega) (Evt.ite_pos (by omega) (Evt.ite_neg (by omega) ?_)))))
    unfold mid
    rw [hQ]
    exact Evt.ite (fun c => Evt.of_eq (if_pos c).symm) (fun c => Evt.of_eq (if_neg c).symm)
  · have q1 := Int.ediv_nonneg hN (by omega : 0 ≤ m - M l n * p + (M l (n + 1) * p - m))
    unfold mid
    split <;> omega
theorem slow_l {l : List S76} (v : valid l) {p m : Int} (hp : 1 ≤ p ∧ p ≤ 1000000) (hm : 0 ≤ m ∧ m ≤ 100000000) (h0 : M l 0 * p ≤ m) : ∀ n, n + 1 < l.length → m < M l (n + 1) * p →
    ∃ t, Evt (fun k => gridhallref2_Slow.l0 k l p m (n : Int)) t ∧ Says l p m (some t) ∧ 0 ≤ t := by
  have hl := v.2.1
  intro n
  induction n with
  | zero =>
    intro hn lt
    exact slow_base v hp hm 0 hn h0 lt
  | succ n ih =>
    intro hn lt
    have b1 : 0 ≤ M l (n + 1) * p ∧ M l (n + 1) * p ≤ 10000000000 := mul_bd (by have := (v.2.2 (n + 1) (by omega)).1; omega) hp
    by_cases c : m < M l (n + 1) * p
    · obtain ⟨t, E, h1, h2⟩ := ih (by omega) c
      refine ⟨t, Evt.succ ?_, h1, h2⟩
      simp only [gridhallref2_Slow.l0]
      rw [rdM l (n + 1), wrap64_of (x := M l (n + 1) * p) (by omega) (by omega), wpred (n := n) (by omega)]
      exact Evt.ite_pos (by omega) (Evt.ite_pos (by omega) (Evt.ite_pos c E))
    · exact slow_base v hp hm (n + 1) hn (by omega) lt
theorem slow_ev {l : List S76} (v : valid l) {p c : Int} (hp : 1 ≤ p ∧ p ≤ 1000000) (hc : 0 ≤ c ∧ c ≤ 1000000) :
    (Evt (fun k => gridhallref2_Slow.f k l p c) (-1) ∧ Says l p (100 * c) none) ∨ ∃ t, Evt (fun k => gridhallref2_Slow.f k l p c) t ∧ Says l p (100 * c) (some t) ∧ 0 ≤ t := by
  have h0 := v.1
  have hl := v.2.1
  have B : ∀ {n}, n < l.length → 0 ≤ M l n * p ∧ M l n * p ≤ 10000000000 := fun h => mul_bd (by have := (v.2.2 _ h).1; omega) hp
  have e0 : (rd_T76 l 0).f0 = M l 0 := rdM l 0
  have b0 := B (n := 0) (by omega)
  have b9 := B (n := l.length - 1) (by omega)
  simp only [gridhallref2_Slow.f, w100 hc, e0, wrap64_of (x := M l 0 * p) (by omega) (by omega), wlast (n := l.length) (by omega) (by omega), rdM, rdT, wrap64_of (x := M l (l.length - 1) * p) (by omega) (by omega)]
  by_cases c1 : 100 * c < M l 0 * p
  · exact Or.inl ⟨Evt.ite_pos (by omega) (Evt.ite_pos c1 (Evt.pure _)), Or.inl ⟨c1, rfl⟩⟩
  right
  by_cases c2 : 100 * c ≥ M l (l.length - 1) * p
  · exact ⟨_, Evt.ite_pos (by omega) (Evt.ite_neg c1 (Evt.ite_pos (by omega) (Evt.ite_pos (by omega) (Evt.ite_pos c2 (Evt.pure _))))), Or.inr (Or.inl ⟨c2, rfl⟩), (v.2.2 (l.length - 1) (by omega)).1.2.2.1⟩
  obtain ⟨n, hn⟩ : ∃ n, l.length = n + 2 := ⟨l.length - 2, by omega⟩
  have e1 : l.length - 1 = n + 1 := by omega
  rw [e1] at c2 b9
  obtain ⟨t, E, S, h⟩ := slow_l v hp (m := 100 * c) (by omega) (by omega) n (by omega) (by omega)
  refine ⟨t, Evt.ite_pos (by omega) (Evt.ite_neg c1 (Evt.ite_pos (by omega) (Evt.ite_pos (by omega) (Evt.ite_neg (by rw [e1]; exact c2) (Evt.succ ?_))))), S, h⟩
  simp only [gridhallref2_Slow.l0]
  rw [e1, rdM l (n + 1), wrap64_of (x := M l (n + 1) * p) (by omega) (by omega), wpred (n := n) (by omega)]
  exact Evt.ite_pos (by omega) (Evt.ite_pos (by omega) (Evt.ite_pos (by omega) E))
end Go.Proofs.Ytpmaiofgnbgboaa.BCurveTimes
