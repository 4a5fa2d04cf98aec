/- What the sums and the shares are; the law's own loops. -/
import Derived.Test.YtekpnmeikibioaaXHoursSpreads
import Derived.Test.YtekpnmeikibioaaHHoursSpreadsy8
namespace Go.Proofs.Ytekpnmeikibioaa.CHoursSpreads
open Go.RowKit Go.Proofs.YtekpnmeikibioaaW.PrintWords Go.Proofs.YtekpnmeikibioaaW.PrintMore Go.Proofs.Ytekpnmeikibioaa.Evs Go.Proofs.Ytekpnmeikibioaa.PHoursSpreads Go.Proofs.Ytekpnmeikibioaa.ZHoursSpreads Go.Proofs.Ytekpnmeikibioaa.XHoursSpreads
set_option linter.unusedVariables false
set_option linter.unusedSectionVars false
set_option linter.unusedSimpArgs false
theorem in_eq (a b c : Int) : gridhallref3_In.f a b c = some (decide (b ≤ a ∧ a ≤ c)) := by
  unfold gridhallref3_In.f
  by_cases h : a ≥ b
  · rw [if_pos h]
    congr 1
    exact decide_eq_decide.2 (by omega)
  · rw [if_neg h, decide_eq_false (by omega)]
/-! the law -/
theorem Evt.of_mono {α : Type} {g : Nat → Option α} (hm : ∀ k r, g k = some r → g (k + 1) = some r) {K : Nat} {r : α} (h : g K = some r) : Evt g r := by
  refine ⟨K, fun k hk => ?_⟩
  obtain ⟨d, rfl⟩ : ∃ d, k = K + d := ⟨k - K, by omega⟩
  clear hk
  induction d with
  | zero => exact h
  | succ d ih => exact hm _ _ ih
theorem SameInts_l0 (x : List Int) (hl : x.length ≤ 140737488351232) : ∀ n, n ≤ x.length → Evt (fun k => gridhallref3_SameInts.l0 k x x (x.length : Int) (n : Int)) true := by
  refine down ?_ ?_
  · refine Evt.succ ?_
    simp only [gridhallref3_SameInts.l0]
    exact Evt.ite_neg (by omega) (Evt.pure _)
  · intro n hn ih
    refine Evt.succ ?_
    simp only [gridhallref3_SameInts.l0]
    rw [wrap64_nat (n := n) (by omega)]
    first
      | exact Evt.ite_pos (by omega) (Evt.ite_pos (by omega) (Evt.ite_pos (by omega) (Evt.ite_pos (by omega) (Evt.ite_pos (by simp) ih))))
      | exact Evt.ite_pos (by omega) (Evt.ite_pos (by omega) (Evt.ite_pos (by omega) (Evt.ite_pos (by omega) ih)))
theorem SameInts_ev (x : List Int) (hl : x.length ≤ 140737488351232) : Evt (fun k => gridhallref3_SameInts.f k x x) true := by
  simp only [gridhallref3_SameInts.f]
  first
    | exact Evt.ite_pos (by simp) (SameInts_l0 x hl 0 (by omega))
    | exact SameInts_l0 x hl 0 (by omega)
/-! Where an index lands in a stable order. -/
section
variable {f : Int → Int}
/-- i comes ahead of k: the greater one first, equal ones by their places. -/
def prec (f : Int → Int) (k i : Int) : Bool := decide (f k > f i) || (decide (f k = f i) && decide (k < i))
def dlt (f : Int → Int) (a b : Int) : Bool := decide (f b < f a)
theorem dlt_weak : Weak (dlt f) := by
  refine ⟨fun x => by simp [dlt], fun {x y z} h1 h2 => ?_, fun {x y z} h1 h2 => ?_⟩
  · simp only [dlt, decide_eq_true_eq] at *
    omega
  · simp only [dlt, decide_eq_false_iff_not] at *
    omega
theorem srt_prec {l r : List Int} (hl : l.Pairwise (· < ·)) (h1 : Srt (dlt f) r) (h2 : St (dlt f) l r) : r.Pairwise (fun a b => prec f a b = true) := by
  rw [List.pairwise_iff_forall_sublist]
  intro a b hab
  have hs : dlt f b a = false := (List.pairwise_iff_forall_sublist.1 h1) hab
  simp only [dlt, decide_eq_false_iff_not] at hs
  unfold prec
  by_cases c : f a > f b
  · simp [c]
  · have e : f a = f b := by omega
    have ea : eqv (dlt f) a a = true := by simp [eqv, dlt]
    have eb : eqv (dlt f) a b = true := by simp [eqv, dlt, e]
    have s1 := hab.filter (eqv (dlt f) a)
    rw [h2 a] at s1
    have e2 : [a, b].filter (eqv (dlt f) a) = [a, b] := by simp [ea, eb]
    rw [e2] at s1
    have := (List.pairwise_iff_forall_sublist.1 hl) (s1.trans List.filter_sublist)
    simp [e, this]
theorem st_perm {l r : List Int} (h2 : St (dlt f) l r) : r.Perm l := by
  rw [List.perm_iff_count]
  intro x
  have ea : eqv (dlt f) x x = true := by simp [eqv, dlt]
  rw [← List.count_filter (l := r) ea, ← List.count_filter (l := l) ea, h2 x]
theorem prec_irr (i : Int) : prec f i i = false := by simp [prec]
theorem prec_asym {i k : Int} (h : prec f i k = true) : prec f k i = false := by
  simp [prec] at *
  omega
/-- The first m of the order: those that fewer than m come ahead of. -/
theorem take_prec {l r : List Int} (hl : l.Pairwise (· < ·)) (h1 : Srt (dlt f) r) (h2 : St (dlt f) l r) (m : Nat) {i : Int} (hi : i ∈ l) : (r.take m).count i = if (l.filter (fun k => prec f k i)).length < m then 1 else 0 := by
  have P := srt_prec hl h1 h2
  have Q := st_perm h2
  have hir : i ∈ r := Q.mem_iff.2 hi
  obtain ⟨A, B, e⟩ := List.append_of_mem hir
  subst e
  rw [List.pairwise_append] at P
  obtain ⟨_, pB, pC⟩ := P
  rw [List.pairwise_cons] at pB
  have fa : (A ++ i :: B).filter (fun k => prec f k i) = A := by
    rw [List.filter_append, List.filter_cons, prec_irr]
    have a1 : A.filter (fun k => prec f k i) = A := List.filter_eq_self.2 fun k hk => pC k hk i (by simp)
    have b1 : B.filter (fun k => prec f k i) = [] := List.filter_eq_nil_iff.2 fun k hk => by
      have := prec_asym (pB.1 k hk)
      simp [this]
    rw [a1, b1]
    simp
  have len : (l.filter (fun k => prec f k i)).length = A.length := by
    rw [← (Q.filter _).length_eq, fa]
  rw [len]
  have nA : A.count i = 0 := List.count_eq_zero.2 fun h => by
    have := pC i h i (by simp)
    rw [prec_irr] at this
    cases this
  have nB : B.count i = 0 := List.count_eq_zero.2 fun h => by
    have := pB.1 i h
    rw [prec_irr] at this
    cases this
  rw [List.take_append]
  by_cases c : A.length < m
  · rw [if_pos c]
    obtain ⟨d, hd⟩ : ∃ d, m - A.length = d + 1 := ⟨m - A.length - 1, by omega⟩
    rw [hd, List.take_succ_cons, List.take_of_length_le (by omega), List.count_append, nA, List.count_cons_self]
    have : (B.take d).count i = 0 := by
      have := List.Sublist.count_le i (List.take_sublist d B)
      omega
    omega
  · rw [if_neg c, show m - A.length = 0 by omega, List.take_zero, List.append_nil]
    have := List.Sublist.count_le i (List.take_sublist m A)
    omega
end
/-! Sums of so many consecutive ones. -/
def sm (f : Nat → Int) : Nat → Int
  | 0 => 0
  | n + 1 => sm f n + f n
/-- The sum of chunk k of the first i. -/
def cu (f : Nat → Int) (s i k : Nat) : Int := sm f (min ((k + 1) * s) i) - sm f (min (k * s) i)
def nch (s i : Nat) : Nat := (i + s - 1) / s
def csums (l : List Int) (s : Nat) : List Int := (List.range (nch s l.length)).map (cu (fun j => l.getD j 0) s l.length)
theorem csums_len (l : List Int) (s : Nat) : (csums l s).length = nch s l.length := by simp [csums]
theorem csums_at (l : List Int) (s : Nat) {k : Nat} (h : k < nch s l.length) : (csums l s).getD k 0 = cu (fun j => l.getD j 0) s l.length k := by
  unfold csums
  rw [List.getD_eq_getElem?_getD, List.getElem?_map, List.getElem?_range h]
  rfl
theorem cu_step (f : Nat → Int) {s : Nat} (hs : 0 < s) (i k : Nat) : cu f s (i + 1) k = cu f s i k + (if k = i / s then f i else 0) := by
  have e : (k + 1) * s = k * s + s := Nat.succ_mul k s
  have d := Nat.div_add_mod i s
  have m := Nat.mod_lt i hs
  have c : k = i / s ↔ k * s ≤ i ∧ i < k * s + s := by
    constructor
    · rintro rfl
      rw [Nat.mul_comm] at d
      omega
    · rintro ⟨h1, h2⟩
      refine ((Nat.div_eq_iff hs).2 ⟨?_, ?_⟩).symm
      · exact h1
      · omega
  unfold cu
  rw [e]
  by_cases h1 : k * s ≤ i
  · by_cases h2 : i < k * s + s
    · rw [if_pos (c.2 ⟨h1, h2⟩), show min (k * s + s) (i + 1) = i + 1 by omega, show min (k * s + s) i = i by omega, show min (k * s) (i + 1) = k * s by omega, show min (k * s) i = k * s by omega]
      simp only [sm]
      omega
    · rw [if_neg (fun h => h2 (c.1 h).2), show min (k * s + s) (i + 1) = k * s + s by omega, show min (k * s + s) i = k * s + s by omega, show min (k * s) (i + 1) = k * s by omega, show min (k * s) i = k * s by omega]
      omega
  · rw [if_neg (fun h => h1 (c.1 h).1), show min (k * s + s) (i + 1) = i + 1 by omega, show min (k * s + s) i = i by omega, show min (k * s) (i + 1) = i + 1 by omega, show min (k * s) i = i by omega]
    omega
theorem nch_step {s : Nat} (hs : 0 < s) (i : Nat) : nch s (i + 1) = i / s + 1 := by
  unfold nch
  rw [show i + 1 + s - 1 = i + s by omega, Nat.add_div_right _ hs]
theorem nch_same {s : Nat} (hs : 0 < s) {i : Nat} (h : i % s ≠ 0) : nch s i = i / s + 1 := by
  have d := Nat.div_add_mod i s
  obtain ⟨j, rfl⟩ : ∃ j, i = j + 1 := ⟨i - 1, by
    have : i ≠ 0 := fun e => h (by rw [e]; exact Nat.zero_mod s)
    omega⟩
  rw [nch_step hs]
  congr 1
  have m := Nat.mod_lt (j + 1) hs
  refine (Nat.div_eq_iff hs).2 ⟨?_, ?_⟩
  · rw [Nat.mul_comm]
    omega
  · rw [Nat.mul_comm]
    omega
theorem nch_new {s : Nat} (hs : 0 < s) {i : Nat} (h : i % s = 0) : nch s i = i / s := by
  have d := Nat.div_add_mod i s
  unfold nch
  refine (Nat.div_eq_iff hs).2 ⟨?_, ?_⟩
  · rw [Nat.mul_comm]
    omega
  · rw [Nat.mul_comm]
    omega
/-- Beyond the chunks that have begun there is nothing. -/
theorem cu_out (f : Nat → Int) {s : Nat} (hs : 0 < s) {i k : Nat} (h : nch s i ≤ k) : cu f s i k = 0 := by
  have : i ≤ k * s := by
    by_cases c : i % s = 0
    · rw [nch_new hs c] at h
      have d := Nat.div_add_mod i s
      have := Nat.mul_le_mul_right s h
      rw [Nat.mul_comm] at d
      omega
    · rw [nch_same hs c] at h
      have d := Nat.div_add_mod i s
      have m := Nat.mod_lt i hs
      have := Nat.mul_le_mul_right s h
      rw [Nat.succ_mul] at this
      rw [Nat.mul_comm] at d
      omega
  unfold cu
  rw [Nat.succ_mul, show min (k * s + s) i = i by omega, show min (k * s) i = i by omega]
  omega
/-- Lists of whole numbers that agree at each place. -/
theorem ext_at {a b : List Int} (hl : a.length = b.length) (h : ∀ k, k < a.length → a.getD k 0 = b.getD k 0) : a = b := by
  apply List.ext_getElem hl
  intro n h1 h2
  have := h n h1
  rw [List.getD_eq_getElem?_getD, List.getD_eq_getElem?_getD, List.getElem?_eq_getElem h1, List.getElem?_eq_getElem h2] at this
  exact this
/-! What is left behind rounding down. -/
theorem sm_parts (t s : Int) (f : Nat → Int) : ∀ n, t * sm f n = s * sm (fun i => t * f i / s) n + sm (fun i => t * f i % s) n := by
  intro n
  induction n with
  | zero => simp [sm]
  | succ n ih =>
    simp only [sm]
    have := Int.mul_ediv_add_emod (t * f n) s
    rw [Int.mul_add, Int.mul_add, ih]
    omega
theorem sm_rem {t s : Int} (hs : 0 < s) (f : Nat → Int) : ∀ n, 0 ≤ sm (fun i => t * f i % s) n ∧ sm (fun i => t * f i % s) n ≤ (n : Int) * s := by
  intro n
  induction n with
  | zero => simp [sm]
  | succ n ih =>
    simp only [sm]
    have h1 := Int.emod_nonneg (t * f n) (by omega : s ≠ 0)
    have h2 := Int.emod_lt_of_pos (t * f n) hs
    rw [show ((n + 1 : Nat) : Int) * s = (n : Int) * s + s by rw [Int.natCast_add, Int.add_mul]; omega]
    omega
theorem left_bd {t s : Int} (hs : 0 < s) (f : Nat → Int) (n : Nat) (e : sm f n = s) : 0 ≤ t - sm (fun i => t * f i / s) n ∧ t - sm (fun i => t * f i / s) n ≤ (n : Int) := by
  have h1 := sm_parts t s f n
  have h2 := sm_rem (t := t) hs f n
  rw [e] at h1
  have e2 : s * (t - sm (fun i => t * f i / s) n) = sm (fun i => t * f i % s) n := by
    rw [Int.mul_sub, Int.mul_comm s t]
    omega
  constructor
  · have : 0 ≤ s * (t - sm (fun i => t * f i / s) n) := by omega
    exact Int.nonneg_of_mul_nonneg_right this hs
  · have : s * (t - sm (fun i => t * f i / s) n) ≤ s * (n : Int) := by rw [Int.mul_comm s (n : Int)]; omega
    exact Int.le_of_mul_le_mul_left this hs
/-! What Check and Spread answer. -/
theorem wn (n : Nat) (h : n ≤ 1000) : wrap64 ((n : Int) + 1) = ((n + 1 : Nat) : Int) := wrap64_nat (by omega)
theorem rdi (l : List Int) (n : Nat) : rd l (n : Int) = l.getD n 0 := rfl
def okW (w : Int) : Prop := -100000 ≤ w ∧ w ≤ 100000
def okL (l : List Int) : Prop := l.length ≤ 24 ∧ ∀ i, i < l.length → okW (l.getD i 0)
theorem Check_l0 (l : List Int) (hl : l.length ≤ 24) : ∀ n, n ≤ l.length → ∃ e, Evt (fun k => hours_Check.l0 k l (l.length : Int) (n : Int)) e ∧ ((∀ i, n ≤ i → i < l.length → okW (l.getD i 0)) → e = 0) ∧ (¬ (∀ i, n ≤ i → i < l.length → okW (l.getD i 0)) → e = 4) := by
  refine down ?_ ?_
  · refine ⟨0, Evt.succ ?_, fun _ => rfl, fun h => absurd (fun i h1 h2 => by omega) h⟩
    simp only [hours_Check.l0]
    exact Evt.ite_neg (by omega) (Evt.pure _)
  · intro n hn ih
    obtain ⟨e, e1, e2, e3⟩ := ih
    by_cases c : okW (l.getD n 0)
    · refine ⟨e, Evt.succ ?_, fun h => e2 fun i h1 h2 => h i (by omega) h2, fun h => e3 fun h' => h fun i h1 h2 => ?_⟩
      · simp only [hours_Check.l0, rdi, wn n (by omega)]
        obtain ⟨c1, c2⟩ := c
        exact Evt.ite_pos (by omega) (Evt.ite_pos (by omega) (Evt.ite_pos (by omega) (Evt.ite_neg (by omega) (Evt.ite_neg (by omega) e1))))
      · by_cases q : i = n
        · subst q; exact c
        · exact h' i (by omega) h2
    · refine ⟨4, Evt.succ ?_, fun h => absurd (h n (Nat.le_refl _) hn) c, fun _ => rfl⟩
      simp only [hours_Check.l0, rdi]
      refine Evt.ite_pos (by omega) (Evt.ite_pos (by omega) (Evt.ite_pos (by omega) (Evt.ite (fun _ => Evt.pure _) fun c1 => Evt.ite_pos ?_ (Evt.pure _))))
      unfold okW at c
      omega
theorem Check_ev (l : List Int) : ∃ e, Evt (fun k => hours_Check.f k l) e ∧ (okL l → e = 0) ∧ (l.length ≤ 24 → ¬ (∀ i, i < l.length → okW (l.getD i 0)) → e = 4) ∧ (¬ l.length ≤ 24 → e = 2) := by
  simp only [hours_Check.f]
  by_cases c : l.length ≤ 24
  · obtain ⟨e, e1, e2, e3⟩ := Check_l0 l c 0 (by omega)
    exact ⟨e, Evt.ite_neg (by omega) e1, fun h => e2 fun i _ hi => h.2 i hi, fun _ h => e3 fun h' => h fun i hi => h' i (by omega) hi, fun h => absurd c h⟩
  · exact ⟨2, Evt.ite_pos (by omega) (Evt.pure _), fun h => absurd h.1 c, fun h => absurd h c, fun _ => rfl⟩
theorem Cmp_ev (x y : Int) : ∃ c, cmp_Compare_int.f x y = some c ∧ (c < 0 ↔ x < y) := by
  unfold cmp_Compare_int.f
  simp only [cmp_isNaN_int.f, Option.bind_some]
  by_cases c : x < y
  · exact ⟨-1, by simp [c], by omega⟩
  · by_cases c2 : x > y
    · exact ⟨1, by simp [c, c2], by omega⟩
    · exact ⟨0, by simp [c, c2], by omega⟩
/-- What a share is, and what is lost by rounding down. -/
def wq (t s : Int) (l : List Int) (i : Nat) : Int := t * l.getD i 0 / s
def wf (t s : Int) (l : List Int) (i : Int) : Int := t * l.getD i.toNat 0 % s
section
variable {l : List Int} {t s : Int} (hl : l.length ≤ 24) (hw : ∀ i, i < l.length → 0 ≤ l.getD i 0 ∧ l.getD i 0 ≤ 100000) (ht : 0 ≤ t ∧ t ≤ 2400000) (hs : 0 < s ∧ s ≤ 2400000)
include hw ht in
theorem tw_bd (i : Nat) (hi : i < l.length) : 0 ≤ t * l.getD i 0 ∧ t * l.getD i 0 ≤ 240000000000 := by
  obtain ⟨h1, h2⟩ := hw i hi
  constructor
  · exact Int.mul_nonneg ht.1 h1
  · have := Int.mul_le_mul ht.2 h2 h1 (by omega)
    omega
include hw ht in
theorem tw_w (i : Nat) (hi : i < l.length) : wrap64 (t * l.getD i 0) = t * l.getD i 0 := by
  have := tw_bd hw ht i hi
  exact wrap64_of (by omega) (by omega)
include hw ht hs in
theorem wq_bd (i : Nat) (hi : i < l.length) : 0 ≤ wq t s l i ∧ wq t s l i ≤ 240000000000 := by
  have h := tw_bd hw ht i hi
  unfold wq
  have h1 := Int.ediv_nonneg h.1 (by omega : 0 ≤ s)
  have h2 := Int.ediv_le_self s h.1
  omega
include hw ht hs in
theorem wq_ev (i : Nat) (hi : i < l.length) : wrap64 (Int.tdiv (wrap64 (t * l.getD i 0)) s) = wq t s l i := by
  have h := tw_bd hw ht i hi
  have b := wq_bd hw ht hs i hi
  rw [tw_w hw ht i hi, Int.tdiv_eq_ediv_of_nonneg h.1]
  exact wrap64_of (by unfold wq at b; omega) (by unfold wq at b; omega)
include hw ht in
theorem wf_ev (i : Nat) (hi : i < l.length) : Int.tmod (wrap64 (t * l.getD i 0)) s = wf t s l (i : Int) := by
  have h := tw_bd hw ht i hi
  rw [tw_w hw ht i hi, Int.tmod_eq_emod_of_nonneg h.1]
  rfl
include hw ht hs in
theorem cmp_ev (p q : Int) (hp : 0 ≤ p ∧ p < l.length) (hq : 0 ≤ q ∧ q < l.length) : ∃ c : Int, Evt (fun k => hours_Spread_1.f p q [t] [l] [s]) c ∧ (c < 0 ↔ dlt (wf t s l) p q = true) := by
  obtain ⟨a, rfl⟩ : ∃ a : Nat, p = a := ⟨p.toNat, by omega⟩
  obtain ⟨b, rfl⟩ : ∃ b : Nat, q = b := ⟨q.toNat, by omega⟩
  obtain ⟨c, c1, c2⟩ := Cmp_ev (wf t s l b) (wf t s l a)
  refine ⟨c, Evt.ofo ?_, by rw [c2]; simp [dlt]⟩
  have e0 : rd_L1 [l] 0 = l := rfl
  have e1 : rd [t] 0 = t := rfl
  have e2 : rd [s] 0 = s := rfl
  simp only [hours_Spread_1.f, e0, e1, e2, rdi, wf_ev hw ht a (by omega), wf_ev hw ht b (by omega), c1, Option.bind_some]
  rw [if_pos (by simp), if_pos (by simp), if_pos (by omega), if_pos (by omega), if_pos (by simp), if_neg (by omega), if_pos (by omega), if_pos (by omega)]
end
/-- How many come ahead of i. -/
def bef (t s : Int) (l : List Int) (i : Nat) : Nat := (((List.range l.length).map (fun j : Nat => (j : Int))).filter (fun k => prec (wf t s l) k (i : Int))).length
def idx (n : Nat) : List Int := (List.range n).map (fun j : Nat => (j : Int))
theorem idx_len (n : Nat) : (idx n).length = n := by simp [idx]
theorem idx_succ (n : Nat) : idx (n + 1) = idx n ++ [(n : Int)] := by simp [idx, List.range_succ]
theorem idx_mem {n : Nat} {x : Int} : x ∈ idx n ↔ 0 ≤ x ∧ x < n := by
  simp only [idx, List.mem_map, List.mem_range]
  constructor
  · rintro ⟨a, h, rfl⟩
    omega
  · intro h
    exact ⟨x.toNat, by omega, by omega⟩
theorem idx_sorted (n : Nat) : (idx n).Pairwise (· < ·) := by
  unfold idx
  rw [List.pairwise_map]
  exact (List.pairwise_lt_range (n := n)).imp fun h => by omega
theorem set_at (x : List Int) (k j : Nat) (v : Int) (h : k < x.length) : (x.set k v).getD j 0 = if j = k then v else x.getD j 0 := by
  rw [List.getD_eq_getElem?_getD, List.getElem?_set]
  by_cases c : k = j
  · subst c
    rw [if_pos rfl, if_pos h, if_pos rfl]
    rfl
  · rw [if_neg c, if_neg (fun e => c e.symm), ← List.getD_eq_getElem?_getD]
section
variable {l : List Int} {t s : Int} (hl : l.length ≤ 24) (hw : ∀ i, i < l.length → 0 ≤ l.getD i 0 ∧ l.getD i 0 ≤ 100000) (ht : 0 ≤ t ∧ t ≤ 2400000) (hs : 0 < s ∧ s ≤ 2400000)
include hl hw ht hs
theorem Spread_l2 (r : List Int) (m : Nat) (hr : ∀ x ∈ r, 0 ≤ x ∧ x < l.length) (hm : m ≤ r.length) (hr2 : r.length ≤ 24) : ∀ j, j ≤ m → ∀ out : List Int, out.length = l.length → (∀ i, i < l.length → out.getD i 0 = wq t s l i + (r.take j).count (i : Int)) →
    ∃ out', Evt (fun k => hours_Spread.l2 k out r (m : Int) (j : Int)) (out', 0) ∧ out'.length = l.length ∧ ∀ i, i < l.length → out'.getD i 0 = wq t s l i + (r.take m).count (i : Int) := by
  refine down ?_ ?_
  · intro out h1 h2
    refine ⟨out, Evt.succ ?_, h1, h2⟩
    simp only [hours_Spread.l2]
    exact Evt.ite_neg (by omega) (Evt.pure _)
  · intro j hj ih out h1 h2
    obtain ⟨b, hb⟩ : ∃ b : Nat, r.getD j 0 = b := ⟨(r.getD j 0).toNat, by have := (hr _ (getD_mem (z := 0) (by omega : j < r.length))).1; omega⟩
    have hbl : b < l.length := by have := (hr _ (getD_mem (z := 0) (by omega : j < r.length))).2; omega
    have wb := wq_bd hw ht hs b hbl
    have cb : (r.take j).count (b : Int) ≤ 24 := Nat.le_trans List.count_le_length (by rw [List.length_take]; omega)
    have w1 : Unit → wrap64 (out.getD b 0 + 1) = out.getD b 0 + 1 := fun _ => by
      have := h2 b hbl
      exact wrap64_of (by omega) (by omega)
    obtain ⟨out', e1, e2, e3⟩ := ih (out.set b (out.getD b 0 + 1)) (by simp [h1]) fun i hi => by
      rw [set_at _ _ _ _ (by omega), getD_take_succ (z := 0) (by omega : j < r.length), hb, List.count_append]
      by_cases c : i = b
      · subst c
        rw [if_pos rfl, h2 i hi]
        simp
        omega
      · rw [if_neg c, h2 i hi]
        have : ¬ (b : Int) = i := by omega
        simp [List.count_cons, this]
    refine ⟨out', Evt.succ ?_, e2, e3⟩
    simp only [hours_Spread.l2, rdi, hb, Int.toNat_natCast, w1 (), wn j (by omega)]
    exact Evt.ite_pos (by omega) (Evt.ite_pos (by omega) (Evt.ite_pos (by omega) (Evt.ite_pos (by omega) (Evt.ite_pos (by omega) e1))))
/-- What Spread gives where all is well. -/
def SprA (t s : Int) (l out : List Int) : Prop := out.length = l.length ∧ ∀ i, i < l.length → out.getD i 0 = wq t s l i + (if ((bef t s l i : Nat) : Int) < t - sm (wq t s l) l.length then 1 else 0)
theorem Spread_l1 (hsum : sm (fun j => l.getD j 0) l.length = s) : ∀ i, i ≤ l.length → ∀ out : List Int, out.length = l.length → (∀ j, j < i → out.getD j 0 = wq t s l j) →
    ∃ out', Evt (fun k => hours_Spread.l1 k out (t - sm (wq t s l) i) (idx i) l (l.length : Int) (i : Int) t l s) (out', 0) ∧ SprA t s l out' := by
  have smb : ∀ n, n ≤ l.length → 0 ≤ sm (wq t s l) n ∧ sm (wq t s l) n ≤ 240000000000 * (n : Int) := by
    intro n
    induction n with
    | zero => intro _; simp [sm]
    | succ n ih =>
      intro hn
      have := ih (by omega)
      have b := wq_bd hw ht hs n (by omega)
      simp only [sm]
      omega
  refine down ?_ ?_
  · intro out h1 h2
    obtain ⟨r, r1, r2, r3⟩ := sorts (lt := dlt (wf t s l)) (Ok := fun x => 0 ≤ x ∧ x < l.length) (ct := [t]) (cw := [l]) (cz := [s]) dlt_weak (fun p q hp hq => cmp_ev hw ht hs p q hp hq) (idx l.length) (fun y hy => idx_mem.1 hy) (by rw [idx_len]; omega)
    have lb := left_bd (t := t) hs.1 (fun j => l.getD j 0) l.length hsum
    have lb : 0 ≤ t - sm (wq t s l) l.length ∧ t - sm (wq t s l) l.length ≤ (l.length : Int) := lb
    have pm := st_perm r2
    have rl : r.length = l.length := by rw [pm.length_eq, idx_len]
    obtain ⟨m, hm⟩ : ∃ m : Nat, t - sm (wq t s l) l.length = m := ⟨(t - sm (wq t s l) l.length).toNat, by omega⟩
    obtain ⟨out', e1, e2, e3⟩ := Spread_l2 hl hw ht hs r m (fun x hx => idx_mem.1 (pm.mem_iff.1 hx)) (by omega) (by omega) 0 (by omega) out h1 fun i hi => by rw [h2 i hi]; simp
    refine ⟨out', Evt.succ ?_, e2, fun i hi => ?_⟩
    · simp only [hours_Spread.l1, hm, idx_len, Int.toNat_natCast, List.length_take]
      refine Evt.ite_neg (by omega) (Evt.bind r3 (Evt.ite_pos (by omega) (Evt.ite_pos (by omega) ?_)))
      rw [Nat.min_eq_left (by omega)]
      exact e1
    · rw [e3 i hi, take_prec (idx_sorted l.length) r1 r2 m (idx_mem.2 ⟨by omega, by omega⟩), hm]
      unfold bef idx
      congr 1
      split <;> split <;> omega
  · intro i hi ih out h1 h2
    have b0 := smb i (by omega)
    have wb := wq_bd hw ht hs i hi
    obtain ⟨out', e1, e2⟩ := ih (out.set i (wq t s l i)) (by simp [h1]) fun j hj => by
      rw [set_at _ _ _ _ (by omega)]
      by_cases c : j = i
      · subst c; rw [if_pos rfl]
      · rw [if_neg c]; exact h2 j (by omega)
    refine ⟨out', Evt.succ ?_, e2⟩
    have eo : (out.set i (wq t s l i)).getD i 0 = wq t s l i := by rw [set_at _ _ _ _ (by omega), if_pos rfl]
    have w1 : Unit → wrap64 (t - sm (wq t s l) i - wq t s l i) = t - sm (wq t s l) (i + 1) := fun _ => by
      simp only [sm]
      rw [wrap64_of (by omega) (by omega)]
      omega
    simp only [hours_Spread.l1, rdi, wq_ev hw ht hs i hi, Int.toNat_natCast, Option.bind_some, eo, w1 (), wn i (by omega), idx_len, ← idx_succ]
    exact Evt.ite_pos (by omega) (Evt.ite_pos (by omega) (Evt.ite_pos (by omega) (Evt.ite_neg (by omega) (Evt.ite_pos (by omega) (Evt.ite_pos (by omega) e1)))))
end
section
variable {l : List Int} (hl : l.length ≤ 24) (hw : ∀ i, i < l.length → okW (l.getD i 0)) {t : Int}
include hl hw
theorem sm_ok : ∀ n, n ≤ l.length → -(100000 * (n : Int)) ≤ sm (fun j => l.getD j 0) n ∧ sm (fun j => l.getD j 0) n ≤ 100000 * (n : Int) := by
  intro n
  induction n with
  | zero => intro _; simp [sm]
  | succ n ih =>
    intro hn
    have := ih (by omega)
    obtain ⟨h1, h2⟩ := hw n (by omega)
    simp only [sm]
    omega
theorem Spread_l0 (ht : 0 ≤ t ∧ t ≤ 2400000) : ∀ n, n ≤ l.length → (∀ i, i < n → 0 ≤ l.getD i 0) →
    ∃ R : List Int × Int, Evt (fun k => hours_Spread.l0 k l (l.length : Int) (n : Int) t l (sm (fun j => l.getD j 0) n)) R ∧
      (¬ (∀ i, i < l.length → 0 ≤ l.getD i 0) → R = ([], 4)) ∧
      ((∀ i, i < l.length → 0 ≤ l.getD i 0) → sm (fun j => l.getD j 0) l.length = 0 → R = ([], 10)) ∧
      ((∀ i, i < l.length → 0 ≤ l.getD i 0) → sm (fun j => l.getD j 0) l.length ≠ 0 → 0 < sm (fun j => l.getD j 0) l.length ∧ R.2 = 0 ∧ SprA t (sm (fun j => l.getD j 0) l.length) l R.1) := by
  refine down ?_ ?_
  · intro hp
    have sb := sm_ok hl hw l.length (Nat.le_refl _)
    by_cases c : sm (fun j => l.getD j 0) l.length = 0
    · refine ⟨([], 10), Evt.succ ?_, fun h => absurd hp h, fun _ _ => rfl, fun _ h => absurd c h⟩
      simp only [hours_Spread.l0]
      exact Evt.ite_neg (by omega) (Evt.ite_pos c (Evt.pure _))
    · have pos : 0 ≤ sm (fun j => l.getD j 0) l.length := by
        have : ∀ n, n ≤ l.length → 0 ≤ sm (fun j => l.getD j 0) n := by
          intro n
          induction n with
          | zero => intro _; exact Int.le_refl _
          | succ n ih =>
            intro hn
            have := ih (by omega)
            have := hp n (by omega)
            simp only [sm]
            omega
        exact this _ (Nat.le_refl _)
      obtain ⟨out, e1, e2⟩ := Spread_l1 hl (t := t) (s := sm (fun j => l.getD j 0) l.length) (fun i hi => ⟨hp i hi, (hw i hi).2⟩) ht ⟨by omega, by omega⟩ rfl 0 (by omega) (List.replicate l.length 0) (by simp) (fun j hj => by omega)
      refine ⟨(out, 0), Evt.succ ?_, fun h => absurd hp h, fun _ h => absurd h c, fun _ _ => ⟨by omega, rfl, e2⟩⟩
      simp only [hours_Spread.l0, Int.toNat_natCast]
      have e0 : t - sm (wq t (sm (fun j => l.getD j 0) l.length) l) 0 = t := by simp [sm]
      rw [e0] at e1
      exact Evt.ite_neg (by omega) (Evt.ite_neg c (Evt.ite_pos (by omega) (Evt.ite_pos (by omega) e1)))
  · intro n hn ih hp
    have sb := sm_ok hl hw n (by omega)
    obtain ⟨w1, w2⟩ := hw n hn
    have ws : Unit → wrap64 (sm (fun j => l.getD j 0) n + l.getD n 0) = sm (fun j => l.getD j 0) (n + 1) := fun _ => by
      simp only [sm]
      exact wrap64_of (by omega) (by omega)
    by_cases c : l.getD n 0 < 0
    · refine ⟨([], 4), Evt.succ ?_, fun _ => rfl, fun h => absurd (h n hn) (by omega), fun h => absurd (h n hn) (by omega)⟩
      simp only [hours_Spread.l0, rdi]
      exact Evt.ite_pos (by omega) (Evt.ite_pos (by omega) (Evt.ite_pos (by omega) (Evt.ite_pos c (Evt.pure _))))
    · obtain ⟨R, e1, e2⟩ := ih fun i hi => by
        by_cases q : i = n
        · subst q; omega
        · exact hp i (by omega)
      refine ⟨R, Evt.succ ?_, e2⟩
      simp only [hours_Spread.l0, rdi, ws (), wn n (by omega)]
      exact Evt.ite_pos (by omega) (Evt.ite_pos (by omega) (Evt.ite_pos (by omega) (Evt.ite_neg c e1)))
end
def okT (t : Int) : Prop := 0 ≤ t ∧ t ≤ 2400000
/-- What Spread answers. -/
structure SprR (t : Int) (l : List Int) (R : List Int × Int) : Prop where
  bad : ¬ (okT t ∧ ∀ i, i < l.length → 0 ≤ l.getD i 0) → R = ([], 4)
  zero : okT t → (∀ i, i < l.length → 0 ≤ l.getD i 0) → sm (fun j => l.getD j 0) l.length = 0 → R = ([], 10)
  ok : okT t → (∀ i, i < l.length → 0 ≤ l.getD i 0) → sm (fun j => l.getD j 0) l.length ≠ 0 → 0 < sm (fun j => l.getD j 0) l.length ∧ R.2 = 0 ∧ SprA t (sm (fun j => l.getD j 0) l.length) l R.1
theorem Spread_ev (l : List Int) (t : Int) (h : okL l) : ∃ R, Evt (fun k => hours_Spread.f k t l) R ∧ SprR t l R := by
  obtain ⟨e, e1, e2, _⟩ := Check_ev l
  have e0 := e2 h
  subst e0
  have j0 : ∀ b : Bool, (b = true ↔ ¬ okT t) → ∃ R, Evt (fun k => hours_Spread.j0 k b t l) R ∧ SprR t l R := by
    intro b hb
    by_cases c : okT t
    · have hb : b = false := by
        cases b with
        | true => exact absurd c (hb.1 rfl)
        | false => rfl
      subst hb
      obtain ⟨R, r1, r2, r3, r4⟩ := Spread_l0 h.1 h.2 (t := t) c 0 (by omega) (fun i hi => by omega)
      refine ⟨R, Evt.succ ?_, fun q => r2 fun q' => q ⟨c, q'⟩, fun _ => r3, fun _ => r4⟩
      simp only [hours_Spread.j0]
      exact Evt.ite_neg (by simp) r1
    · have hb : b = true := hb.2 c
      subst hb
      refine ⟨([], 4), Evt.succ ?_, fun _ => rfl, fun q => absurd q c, fun q => absurd q c⟩
      simp only [hours_Spread.j0]
      exact Evt.ite_pos (by simp) (Evt.pure _)
  simp only [hours_Spread.f]
  by_cases c : t < 0
  · obtain ⟨R, r1, r2⟩ := j0 true ⟨fun _ q => by unfold okT at q; omega, fun _ => rfl⟩
    exact ⟨R, Evt.bind e1 (Evt.ite_pos rfl (Evt.ite_pos c r1)), r2⟩
  · obtain ⟨R, r1, r2⟩ := j0 (decide (t > 2400000)) (by unfold okT; simp; omega)
    exact ⟨R, Evt.bind e1 (Evt.ite_pos rfl (Evt.ite_neg c r1)), r2⟩
theorem Spread_err (l : List Int) (t e : Int) (h : Evt (fun k => hours_Check.f k l) e) (he : e ≠ 0) : Evt (fun k => hours_Spread.f k t l) (([] : List Int), e) := by
  simp only [hours_Spread.f]
  exact Evt.bind h (Evt.ite_neg he (Evt.pure _))
theorem three_ev : Evt (fun k => hours_Spread.f k 10 [1, 1, 1]) ([4, 3, 3], 0) := Evt.of_mono (fun k r h => hours_Spread.mono _ _ k r h) (K := 60) (by decide +kernel)
/-! The law. -/
section
variable {l : List Int} (h : okL l)
include h
theorem sm_bd (n : Nat) (hn : n ≤ l.length) : -2400000 ≤ sm (fun j => l.getD j 0) n ∧ sm (fun j => l.getD j 0) n ≤ 2400000 := by
  have := sm_ok h.1 h.2 n hn
  have := h.1
  omega
theorem wsum_eq (a : Nat) : ∀ j, a + j ≤ l.length → wsum (fun j => l.getD j 0) a j = sm (fun j => l.getD j 0) (a + j) - sm (fun j => l.getD j 0) a := by
  intro j
  induction j with
  | zero => intro _; simp [wsum]
  | succ j ih =>
    intro hj
    have b0 := sm_bd h a (by omega)
    have b1 := sm_bd h (a + j) (by omega)
    obtain ⟨w1, w2⟩ := h.2 (a + j) (by omega)
    show wrap64 (wsum (fun j => l.getD j 0) a j + l.getD (a + j) 0) = sm (fun j => l.getD j 0) (a + j) + l.getD (a + j) 0 - _
    rw [ih (by omega), wrap64_of (by omega) (by omega)]
    omega
theorem chunks_eq {s : Nat} (hs : 0 < s) : chunkSums l s = csums l s := by
  refine ext_at (by simp [chunkSums, csums, nch]) fun k hk => ?_
  have hk : k < nch s l.length := by simpa [chunkSums, nch] using hk
  rw [csums_at l s hk]
  unfold chunkSums
  rw [List.getD_eq_getElem?_getD, List.getElem?_map, List.getElem?_range (show k < (l.length + s - 1) / s from hk)]
  show chk l s k = _
  have kl : k * s < l.length := by
    have d := Nat.div_mul_le_self (l.length + s - 1) s
    have : (k + 1) * s ≤ nch s l.length * s := Nat.mul_le_mul_right s hk
    unfold nch at this
    rw [Nat.succ_mul] at this
    omega
  unfold chk cu
  rw [wsum_eq h _ _ (by omega), Nat.succ_mul, show min (k * s) l.length = k * s by omega, show min (k * s + s) l.length = k * s + min s (l.length - k * s) by omega]
theorem Sums_ok (z : Int) : (1 ≤ z ∧ z ≤ 24 → Evt (fun k => hours_Sums.f k l z) (csums l z.toNat, 0)) ∧ (¬ (1 ≤ z ∧ z ≤ 24) → Evt (fun k => hours_Sums.f k l z) (([] : List Int), 1)) := by
  obtain ⟨e, e1, e2, _⟩ := Check_ev l
  have e0 := e2 h
  subst e0
  simp only [hours_Sums.f]
  refine ⟨fun c => ?_, fun c => ?_⟩
  · rw [← chunks_eq h (by omega)]
    exact Evt.bind e1 (Evt.ite_pos rfl (Evt.ite_neg (by omega) (Evt.ite_neg (by omega) (Evt.pure _))))
  · exact Evt.bind e1 (Evt.ite_pos rfl (Evt.ite (fun _ => Evt.pure _) fun _ => Evt.ite_pos (by omega) (Evt.pure _)))
theorem cu_bd (s i k : Nat) (hi : i ≤ l.length) : -4800000 ≤ cu (fun j => l.getD j 0) s i k ∧ cu (fun j => l.getD j 0) s i k ≤ 4800000 := by
  have b0 := sm_bd h (min ((k + 1) * s) i) (by omega)
  have b1 := sm_bd h (min (k * s) i) (by omega)
  unfold cu
  omega
end
theorem Sums_err (l : List Int) (z e : Int) (h : Evt (fun k => hours_Check.f k l) e) (he : e ≠ 0) : Evt (fun k => hours_Sums.f k l z) (([] : List Int), e) := by
  simp only [hours_Sums.f]
  exact Evt.bind h (Evt.ite_neg he (Evt.pure _))
/-- How many of the first j come ahead of i. -/
def cnt (f : Int → Int) (i : Int) (j : Nat) : Nat := ((idx j).filter (fun k => prec f k i)).length
theorem cnt_succ (f : Int → Int) (i : Int) (j : Nat) : cnt f i (j + 1) = cnt f i j + (if prec f (j : Int) i = true then 1 else 0) := by
  unfold cnt
  rw [idx_succ, List.filter_append, List.length_append]
  congr 1
  by_cases c : prec f (j : Int) i = true
  · simp [c]
  · simp [c]
theorem cnt_le (f : Int → Int) (i : Int) (j : Nat) : cnt f i j ≤ j := by
  unfold cnt
  exact Nat.le_trans (List.length_filter_le _ _) (by rw [idx_len]; omega)
section
variable {l : List Int} (h : okL l) (hp : ∀ i, i < l.length → 0 ≤ l.getD i 0) {t s : Int} (ht : okT t) (hs : s = sm (fun j => l.getD j 0) l.length) (hs0 : 0 < s) {out : List Int} (A : SprA t s l out) {z : Int}
include h hp ht hs hs0 A
theorem law_l4 (i : Nat) (hi : i < l.length) (H : Evt (fun k => gridhalllaw3_HoursSpreads.l3 k t l out s (t - sm (wq t s l) l.length) l (l.length : Int) (wrap64 ((i : Int) + 1))) true) : ∀ j, j ≤ l.length →
    Evt (fun k => gridhalllaw3_HoursSpreads.l4 k t l out s (t - sm (wq t s l) l.length) (i : Int) (l.getD i 0) ((cnt (wf t s l) (i : Int) j : Nat) : Int) l (l.length : Int) (i : Int) l (l.length : Int) (j : Int)) true := by
  have hw : ∀ i, i < l.length → 0 ≤ l.getD i 0 ∧ l.getD i 0 ≤ 100000 := fun i hi => ⟨hp i hi, (h.2 i hi).2⟩
  have hl := h.1
  have sb := sm_bd h l.length (Nat.le_refl _)
  have hs2 : 0 < s ∧ s ≤ 2400000 := ⟨hs0, by omega⟩
  have eo := A.2 i hi
  have ol := A.1
  have wb := wq_bd hw ht hs2 i hi
  refine down ?_ ?_
  · have eb : bef t s l i = cnt (wf t s l) (i : Int) l.length := rfl
    rw [eb] at eo
    have w1 : Unit → wrap64 (wq t s l i + 1) = wq t s l i + 1 := fun _ => wrap64_of (by omega) (by omega)
    refine Evt.succ ?_
    simp only [gridhalllaw3_HoursSpreads.l4, rdi, wq_ev hw ht hs2 i hi, w1 (), eo]
    refine Evt.ite_neg (by omega) (Evt.ite_neg (by omega) ?_)
    by_cases c : ((cnt (wf t s l) (i : Int) l.length : Nat) : Int) < t - sm (wq t s l) l.length
    · simp only [if_pos c]
      exact Evt.ite_pos (by omega) (Evt.ite_pos (by omega) (by
        first
          | exact Evt.ite_pos rfl H
          | exact H))
    · simp only [if_neg c]
      exact Evt.ite_pos (by omega) (Evt.ite_pos (by omega) (Evt.ite_pos (by omega) H))
  · intro j hj ih
    have cl := cnt_le (wf t s l) (i : Int) j
    rw [cnt_succ] at ih
    have w1 : Unit → wrap64 (((cnt (wf t s l) (i : Int) j : Nat) : Int) + 1) = ((cnt (wf t s l) (i : Int) j + 1 : Nat) : Int) := fun _ => wrap64_nat (by omega)
    refine Evt.succ ?_
    simp only [gridhalllaw3_HoursSpreads.l4, rdi, wf_ev hw ht j hj, wf_ev hw ht i hi, w1 (), wn j (by omega)]
    refine Evt.ite_pos (by omega) (Evt.ite_pos (by omega) (Evt.ite_pos (by omega) (Evt.ite_neg (by omega) ?_)))
    refine Evt.ite (fun c => ?_) fun c => Evt.ite (fun c2 => Evt.ite (fun c3 => ?_) fun c3 => ?_) fun c2 => ?_
    · rw [if_pos (by simp [prec, c])] at ih
      exact ih
    · rw [if_pos (by simp [prec, c2]; omega)] at ih
      exact ih
    · rw [if_neg (by simp [prec, c2]; omega)] at ih
      exact ih
    · rw [if_neg (by simp [prec]; omega)] at ih
      exact ih
theorem law_l3 : ∀ i, i ≤ l.length → Evt (fun k => gridhalllaw3_HoursSpreads.l3 k t l out s (t - sm (wq t s l) l.length) l (l.length : Int) (i : Int)) true := by
  have hl := h.1
  refine down ?_ ?_
  · refine Evt.succ ?_
    simp only [gridhalllaw3_HoursSpreads.l3]
    exact Evt.ite_neg (by omega) (Evt.pure _)
  · intro i hi ih
    have H : Evt (fun k => gridhalllaw3_HoursSpreads.l3 k t l out s (t - sm (wq t s l) l.length) l (l.length : Int) (wrap64 ((i : Int) + 1))) true := by
      rw [wn i (by omega)]
      exact ih
    have := law_l4 h hp ht hs hs0 A i hi H 0 (by omega)
    refine Evt.succ ?_
    simp only [gridhalllaw3_HoursSpreads.l3, rdi]
    exact Evt.ite_pos (by omega) (Evt.ite_pos (by omega) (Evt.ite_pos (by omega) this))
theorem law_l2 : ∀ i, i ≤ l.length → Evt (fun k => gridhalllaw3_HoursSpreads.l2 k t l out 0 s (t - sm (wq t s l) i) l (l.length : Int) (i : Int)) true := by
  have hw : ∀ i, i < l.length → 0 ≤ l.getD i 0 ∧ l.getD i 0 ≤ 100000 := fun i hi => ⟨hp i hi, (h.2 i hi).2⟩
  have hl := h.1
  have sb := sm_bd h l.length (Nat.le_refl _)
  have hs2 : 0 < s ∧ s ≤ 2400000 := ⟨hs0, by omega⟩
  have smb : ∀ n, n ≤ l.length → 0 ≤ sm (wq t s l) n ∧ sm (wq t s l) n ≤ 240000000000 * (n : Int) := by
    intro n
    induction n with
    | zero => intro _; simp [sm]
    | succ n ih =>
      intro hn
      have := ih (by omega)
      have b := wq_bd hw ht hs2 n (by omega)
      simp only [sm]
      omega
  refine down ?_ ?_
  · have l3 := law_l3 h hp ht hs hs0 A 0 (by omega)
    have ol := A.1
    refine Evt.succ ?_
    simp only [gridhalllaw3_HoursSpreads.l2]
    refine Evt.ite_neg (by omega) (Evt.ite_pos (by simp) (Evt.succ ?_))
    simp only [gridhalllaw3_HoursSpreads.j9, ol]
    exact Evt.ite_neg (by simp) l3
  · intro i hi ih
    have b0 := smb i (by omega)
    have wb := wq_bd hw ht hs2 i hi
    have tt := ht
    unfold okT at tt
    have w1 : Unit → wrap64 (t - sm (wq t s l) i - wq t s l i) = t - sm (wq t s l) (i + 1) := fun _ => by
      simp only [sm]
      rw [wrap64_of (by omega) (by omega)]
      omega
    refine Evt.succ ?_
    simp only [gridhalllaw3_HoursSpreads.l2, rdi, wq_ev hw ht hs2 i hi, w1 (), wn i (by omega)]
    exact Evt.ite_pos (by omega) (Evt.ite_pos (by omega) (Evt.ite_pos (by omega) (Evt.ite_neg (by omega) ih)))
end
section
variable {l : List Int} (h : okL l) {t : Int} {R : List Int × Int} (S : SprR t l R) {z : Int}
include h S
theorem law_j7 (b : Bool) (hb : b = true ↔ ¬ (okT t ∧ ∀ i, i < l.length → 0 ≤ l.getD i 0)) : Evt (fun k => gridhalllaw3_HoursSpreads.j7 k t l R.1 R.2 (sm (fun j => l.getD j 0) l.length) b) true := by
  refine Evt.succ ?_
  simp only [gridhalllaw3_HoursSpreads.j7]
  by_cases c : okT t ∧ ∀ i, i < l.length → 0 ≤ l.getD i 0
  · have hb : ¬ b = true := fun e => hb.1 e c
    refine Evt.ite_neg hb (Evt.ite (fun c2 => ?_) fun c2 => ?_)
    · rw [S.zero c.1 c.2 c2]
      exact Evt.ite_pos (by simp) (Evt.of_eq (by simp))
    · obtain ⟨p, e, A⟩ := S.ok c.1 c.2 c2
      have := law_l2 h c.2 c.1 rfl p A 0 (by omega)
      rw [e]
      have e0 : t - sm (wq t (sm (fun j => l.getD j 0) l.length) l) 0 = t := by simp [sm]
      rw [e0] at this
      exact this
  · refine Evt.ite_pos (hb.2 c) ?_
    rw [S.bad c]
    exact Evt.ite_pos (by simp) (Evt.of_eq (by simp))
theorem law_j6 (b : Bool) (hb : b = true ↔ ¬ ∀ i, i < l.length → 0 ≤ l.getD i 0) : Evt (fun k => gridhalllaw3_HoursSpreads.j6 k t l R.1 R.2 (sm (fun j => l.getD j 0) l.length) b false) true := by
  refine Evt.succ ?_
  simp only [gridhalllaw3_HoursSpreads.j6, in_eq, Option.bind_some, decide_eq_true_eq]
  refine Evt.ite_neg (by simp) (Evt.ite (fun c => law_j7 h S b ?_) fun c => law_j7 h S true ?_)
  · rw [hb]
    exact ⟨fun q q' => q q'.2, fun q q' => q ⟨c, q'⟩⟩
  · exact ⟨fun _ q => c q.1, fun _ => rfl⟩
theorem law_j5 (b : Bool) (hb : b = true ↔ ¬ ∀ i, i < l.length → 0 ≤ l.getD i 0) (x : List Int) (hx : x.length ≤ 1000) (w : Int) : Evt (fun k => gridhalllaw3_HoursSpreads.j5 k t l R.1 R.2 x w w (sm (fun j => l.getD j 0) l.length) b x) true := by
  have J := law_j6 h S b hb
  refine Evt.succ ?_
  simp only [gridhalllaw3_HoursSpreads.j5]
  exact Evt.ite_pos (by simp) (Evt.bind (SameInts_ev x (by omega)) (by simpa using J))
/-- The parts that the law has made of the first i. -/
def Prt (l : List Int) (z : Int) (i : Nat) (x : List Int) : Prop := (1 ≤ z ∧ z ≤ 24 → x.length = nch z.toNat i ∧ ∀ k, k < nch z.toNat i → x.getD k 0 = cu (fun j => l.getD j 0) z.toNat i k) ∧ (¬ (1 ≤ z ∧ z ≤ 24) → x = [])
omit h S in
theorem nch_le (s i : Nat) (hs : 0 < s) : nch s i ≤ i + 1 := by
  have := Nat.div_le_self i s
  by_cases c : i % s = 0
  · rw [nch_new hs c]
    exact Nat.le_succ_of_le this
  · rw [nch_same hs c]
    exact Nat.succ_le_succ this
omit h S in
theorem wpred (d : Nat) (hd : d ≤ 1000) : wrap64 (((d + 1 : Nat) : Int) - 1) = (d : Int) := (wrap64_of (by omega) (by omega)).trans (by omega)
theorem law_l1 {Y : List Int × Int} (hY : (1 ≤ z ∧ z ≤ 24 → Y = (csums l z.toNat, 0)) ∧ (¬ (1 ≤ z ∧ z ≤ 24) → Y = ([], 1))) : ∀ i, i ≤ l.length → ∀ (b : Bool), (b = true ↔ ∃ j, j < i ∧ l.getD j 0 < 0) → ∀ x, Prt l z i x →
    Evt (fun k => gridhalllaw3_HoursSpreads.l1 k t l z R.1 R.2 Y.1 Y.2 0 (sm (fun j => l.getD j 0) i) b x l (l.length : Int) (i : Int)) true := by
  have hl := h.1
  refine down ?_ ?_
  · intro b hb x hx
    have hb2 : b = true ↔ ¬ ∀ i, i < l.length → 0 ≤ l.getD i 0 := by
      rw [hb]
      constructor
      · rintro ⟨j, h1, h2⟩ q
        have := q j h1
        omega
      · intro q
        apply Classical.byContradiction
        intro q2
        exact q fun i hi => by
          apply Classical.byContradiction
          intro q3
          exact q2 ⟨i, hi, by omega⟩
    refine Evt.succ ?_
    simp only [gridhalllaw3_HoursSpreads.l1, in_eq, Option.bind_some, decide_eq_true_eq]
    refine Evt.ite_neg (by omega) (Evt.ite (fun c => ?_) fun c => ?_)
    · obtain ⟨p1, p2⟩ := hx.1 c
      have ex : x = csums l z.toNat := ext_at (by rw [p1, csums_len]) fun k hk => by rw [p2 k (by omega), csums_at l _ (by omega)]
      rw [hY.1 c, ex]
      exact law_j5 h S b hb2 _ (by rw [csums_len]; have := nch_le z.toNat l.length (by omega); omega) 0
    · rw [hY.2 c, hx.2 c]
      exact law_j5 h S b hb2 [] (by simp) 1
  · intro i hi ih b hb x hx
    have sb := sm_bd h i (by omega)
    obtain ⟨w1, w2⟩ := h.2 i hi
    have ws : Unit → wrap64 (sm (fun j => l.getD j 0) i + l.getD i 0) = sm (fun j => l.getD j 0) (i + 1) := fun _ => by
      simp only [sm]
      exact wrap64_of (by omega) (by omega)
    have j4 : ∀ b' : Bool, (b' = true ↔ ∃ j, j < i + 1 ∧ l.getD j 0 < 0) → Evt (fun k => gridhalllaw3_HoursSpreads.j4 k t l z R.1 R.2 Y.1 Y.2 0 (sm (fun j => l.getD j 0) (i + 1)) b' x (i : Int) (l.getD i 0) l (l.length : Int) (i : Int)) true := by
      intro b' hb'
      refine Evt.succ ?_
      simp only [gridhalllaw3_HoursSpreads.j4, in_eq, Option.bind_some, decide_eq_true_eq, wn i (by omega)]
      refine Evt.ite (fun c => ?_) fun c => ih b' hb' x ⟨fun q => absurd q c, hx.2⟩
      obtain ⟨s, rfl⟩ : ∃ s : Nat, z = s := ⟨z.toNat, by omega⟩
      have hs : 0 < s := by omega
      obtain ⟨p1, p2⟩ := hx.1 c
      rw [Int.toNat_natCast] at p1 p2
      have em : Int.tmod (i : Int) (s : Int) = ((i % s : Nat) : Int) := by
        rw [Int.tmod_eq_emod_of_nonneg (by omega)]
        rfl
      have dv0 : i / s ≤ i := Nat.div_le_self i s
      obtain ⟨d, hd⟩ : ∃ d, i / s = d := ⟨_, rfl⟩
      have dv : d ≤ i := by rw [← hd]; exact dv0
      have cstep : ∀ k, cu (fun j => l.getD j 0) s (i + 1) k = cu (fun j => l.getD j 0) s i k + (if k = d then l.getD i 0 else 0) := fun k => by rw [cu_step _ hs, hd]
      have nstep : nch s (i + 1) = d + 1 := by rw [nch_step hs, hd]
      clear dv0
      have cb := cu_bd h s i d (by omega)
      have wv : Unit → wrap64 (cu (fun j => l.getD j 0) s i d + l.getD i 0) = cu (fun j => l.getD j 0) s (i + 1) d := fun _ => by
        rw [cstep, if_pos rfl]
        exact wrap64_of (by omega) (by omega)
      have wl : Unit → wrap64 (((d + 1 : Nat) : Int) - 1) = (d : Int) := fun _ => wpred d (by omega)
      have fin : ∀ y : List Int, y.length = d + 1 → (∀ k, k < d → y.getD k 0 = cu (fun j => l.getD j 0) s i k) → Prt l s (i + 1) (y.set d (cu (fun j => l.getD j 0) s (i + 1) d)) := by
        intro y y1 y2
        refine ⟨fun _ => ?_, fun q => absurd c q⟩
        rw [Int.toNat_natCast, nstep]
        refine ⟨by simp [y1], fun k hk => ?_⟩
        rw [set_at _ _ _ _ (by omega)]
        by_cases e : k = d
        · rw [if_pos e, e]
        · rw [if_neg e, y2 k (by omega), cstep, if_neg e]
          omega
      have new : i % s = 0 → nch s i = d := fun m => by rw [nch_new hs m, hd]
      have same : i % s ≠ 0 → nch s i = d + 1 := fun m => by rw [nch_same hs m, hd]
      obtain ⟨m, hm⟩ : ∃ m, i % s = m := ⟨_, rfl⟩
      rw [hm] at new same em
      rw [em]
      refine Evt.ite_neg (by omega) (Evt.ite (fun q => ?_) fun q => ?_)
      · have n0 := new (by omega)
        rw [n0] at p1 p2
        have z0 : cu (fun j => l.getD j 0) s i d = 0 := cu_out _ hs (by rw [n0]; omega)
        have yl : (x ++ [(0 : Int)]).length = d + 1 := by simp [p1]
        have yv : (x ++ [(0 : Int)]).getD d 0 = cu (fun j => l.getD j 0) s i d := by
          rw [z0, List.getD_eq_getElem?_getD, List.getElem?_append_right (by omega), p1, Nat.sub_self]
          rfl
        have := ih b' hb' _ (fin (x ++ [0]) yl fun k hk => by
          rw [List.getD_eq_getElem?_getD, List.getElem?_append_left (by omega), ← List.getD_eq_getElem?_getD]
          exact p2 k hk)
        simp only [Option.bind_some, yl, wl (), rdi, yv, wv (), Int.toNat_natCast]
        exact Evt.ite_pos (by omega) (Evt.ite_pos (by omega) (Evt.ite_pos (by omega) this))
      · have n0 := same (by omega)
        rw [n0] at p1 p2
        have := ih b' hb' _ (fin x p1 fun k hk => p2 k (by omega))
        simp only [p1, wl (), rdi, p2 d (by omega), wv (), Int.toNat_natCast]
        exact Evt.ite_pos (by omega) (Evt.ite_pos (by omega) this)
    refine Evt.succ ?_
    simp only [gridhalllaw3_HoursSpreads.l1, rdi, ws ()]
    refine Evt.ite_pos (by omega) (Evt.ite_pos (by omega) (Evt.ite_pos (by omega) (Evt.ite (fun c => j4 true ?_) fun c => j4 _ ?_)))
    · obtain ⟨j, h1, h2⟩ := hb.1 c
      exact ⟨fun _ => ⟨j, by omega, h2⟩, fun _ => rfl⟩
    · refine ⟨fun q => ⟨i, by omega, of_decide_eq_true q⟩, ?_⟩
      rintro ⟨j, h1, h2⟩
      by_cases e : j = i
      · subst e
        exact decide_eq_true h2
      · exact absurd (hb.2 ⟨j, by omega, h2⟩) c
end
/-- The law's own check. -/
theorem law_l0 (l : List Int) (t z : Int) {c : Int} (C : Evt (fun k => hours_Check.f k l) c) (hc1 : okL l → c = 0) (hc2 : l.length ≤ 24 → ¬ (∀ i, i < l.length → okW (l.getD i 0)) → c = 4) (hc3 : ¬ l.length ≤ 24 → c = 2) {R Y : List Int × Int}
    (hb : l.length ≤ 140737488351232) (hR1 : okL l → SprR t l R) (hR2 : c ≠ 0 → R = ([], c)) (hY1 : okL l → (1 ≤ z ∧ z ≤ 24 → Y = (csums l z.toNat, 0)) ∧ (¬ (1 ≤ z ∧ z ≤ 24) → Y = ([], 1))) (hY2 : c ≠ 0 → Y = ([], c)) :
    ∀ i, i ≤ l.length → ∀ w : Int, (w = 2 ∧ ¬ l.length ≤ 24) ∨ (w = 0 ∧ l.length ≤ 24 ∧ ∀ j, j < i → okW (l.getD j 0)) ∨ (w = 4 ∧ l.length ≤ 24 ∧ ¬ ∀ j, j < l.length → okW (l.getD j 0)) →
    Evt (fun k => gridhalllaw3_HoursSpreads.l0 k t l z R.1 R.2 Y.1 Y.2 w 0 false l (l.length : Int) (i : Int)) true := by
  refine down ?_ ?_
  · intro w hw
    have bad : c ≠ 0 → w = c → Evt (fun k => gridhalllaw3_HoursSpreads.l0 k t l z R.1 R.2 Y.1 Y.2 w 0 false l (l.length : Int) (l.length : Int)) true := by
      rintro q rfl
      rw [hR2 q, hY2 q]
      refine Evt.succ ?_
      simp only [gridhalllaw3_HoursSpreads.l0]
      exact Evt.ite_neg (by omega) (Evt.bind C (Evt.ite_pos (by simp) (Evt.ite_neg q (Evt.ite_pos (by simp) (Evt.ite_pos (by simp) (Evt.ite_pos (by simp) (Evt.of_eq (by simp))))))))
    rcases hw with ⟨rfl, q⟩ | ⟨rfl, q1, q2⟩ | ⟨rfl, q1, q2⟩
    · have := hc3 q
      exact bad (by omega) (by omega)
    · have ok : okL l := ⟨q1, q2⟩
      have e := hc1 ok
      subst e
      refine Evt.succ ?_
      simp only [gridhalllaw3_HoursSpreads.l0]
      have L := law_l1 ok (hR1 ok) (hY1 ok) 0 (by omega) false ⟨fun q => absurd q (by simp), fun ⟨j, q, _⟩ => by omega⟩ [] ⟨fun q => ⟨by rw [nch_new (by omega) (Nat.zero_mod _)]; simp, fun k hk => by rw [nch_new (by omega) (Nat.zero_mod _)] at hk; simp at hk⟩, fun _ => rfl⟩
      exact Evt.ite_neg (by omega) (Evt.bind C (Evt.ite_pos (by simp) (Evt.ite_pos (by simp) L)))
    · have := hc2 q1 q2
      exact bad (by omega) (by omega)
  · intro i hi ih w hw
    have wi : Unit → wrap64 ((i : Int) + 1) = ((i + 1 : Nat) : Int) := fun _ => wrap64_nat (by omega)
    refine Evt.succ ?_
    simp only [gridhalllaw3_HoursSpreads.l0, rdi, in_eq, Option.bind_some, decide_eq_true_eq, wi ()]
    refine Evt.ite_pos (by omega) (Evt.ite_pos (by omega) (Evt.ite_pos (by omega) (Evt.ite (fun c0 => Evt.ite (fun c1 => ih w ?_) fun c1 => ih 4 ?_) fun c0 => ih w ?_)))
    · rcases hw with ⟨q, _⟩ | ⟨_, q1, q2⟩ | ⟨q, _⟩
      · omega
      · refine Or.inr (Or.inl ⟨c0, q1, fun j hj => ?_⟩)
        by_cases e : j = i
        · subst e; exact c1
        · exact q2 j (by omega)
      · omega
    · rcases hw with ⟨q, _⟩ | ⟨_, q1, q2⟩ | ⟨q, _⟩
      · omega
      · exact Or.inr (Or.inr ⟨rfl, q1, fun q => c1 (q i hi)⟩)
      · omega
    · rcases hw with q | ⟨q, _⟩ | q
      · exact Or.inl q
      · exact absurd q c0
      · exact Or.inr (Or.inr q)
theorem law_j0 (l : List Int) (t z : Int) (hb : l.length ≤ 140737488351232) : Evt (fun k => gridhalllaw3_HoursSpreads.j0 k t l z false) true := by
  obtain ⟨c, C, c1, c2, c3⟩ := Check_ev l
  obtain ⟨R, r1, r2, r3⟩ : ∃ R, Evt (fun k => hours_Spread.f k t l) R ∧ (okL l → SprR t l R) ∧ (c ≠ 0 → R = ([], c)) := by
    by_cases q : okL l
    · obtain ⟨R, r1, r2⟩ := Spread_ev l t q
      exact ⟨R, r1, fun _ => r2, fun q2 => absurd (c1 q) q2⟩
    · refine ⟨([], c), Spread_err l t c C ?_, fun q2 => absurd q2 q, fun _ => rfl⟩
      intro e
      by_cases q2 : l.length ≤ 24
      · have := c2 q2 fun q3 => q ⟨q2, q3⟩
        omega
      · have := c3 q2
        omega
  obtain ⟨Y, y1, y2, y3⟩ : ∃ Y, Evt (fun k => hours_Sums.f k l z) Y ∧ (okL l → (1 ≤ z ∧ z ≤ 24 → Y = (csums l z.toNat, 0)) ∧ (¬ (1 ≤ z ∧ z ≤ 24) → Y = ([], 1))) ∧ (c ≠ 0 → Y = ([], c)) := by
    by_cases q : okL l
    · have S := Sums_ok q z
      by_cases q2 : 1 ≤ z ∧ z ≤ 24
      · exact ⟨_, S.1 q2, fun _ => ⟨fun _ => rfl, fun q3 => absurd q2 q3⟩, fun q3 => absurd (c1 q) q3⟩
      · exact ⟨_, S.2 q2, fun _ => ⟨fun q3 => absurd q3 q2, fun _ => rfl⟩, fun q3 => absurd (c1 q) q3⟩
    · refine ⟨([], c), Sums_err l z c C ?_, fun q2 => absurd q2 q, fun _ => rfl⟩
      intro e
      by_cases q2 : l.length ≤ 24
      · have := c2 q2 fun q3 => q ⟨q2, q3⟩
        omega
      · have := c3 q2
        omega
  have j1 : ∀ w : Int, (w = 2 ∧ ¬ l.length ≤ 24) ∨ (w = 0 ∧ l.length ≤ 24) → Evt (fun k => gridhalllaw3_HoursSpreads.j1 k t l z R.1 R.2 Y.1 Y.2 w) true := by
    intro w hw
    refine Evt.succ ?_
    simp only [gridhalllaw3_HoursSpreads.j1]
    refine law_l0 l t z C c1 c2 c3 hb r2 r3 y2 y3 0 (by omega) w ?_
    rcases hw with q | ⟨q1, q2⟩
    · exact Or.inl q
    · exact Or.inr (Or.inl ⟨q1, q2, fun j hj => by omega⟩)
  refine Evt.succ ?_
  simp only [gridhalllaw3_HoursSpreads.j0]
  refine Evt.ite_neg (by simp) (Evt.bind r1 (Evt.bind y1 (Evt.ite (fun q => j1 2 (Or.inl ⟨rfl, by omega⟩)) fun q => j1 0 (Or.inr ⟨rfl, by omega⟩))))
theorem law_f (l : List Int) (t z : Int) (hb : l.length ≤ 140737488351232) : Evt (fun k => gridhalllaw3_HoursSpreads.f k t l z) true := by
  simp only [gridhalllaw3_HoursSpreads.f]
  exact Evt.bind three_ev (Evt.ite_pos rfl (Evt.bind (SameInts_ev _ (by simp)) (law_j0 l t z hb)))
end Go.Proofs.Ytekpnmeikibioaa.CHoursSpreads
