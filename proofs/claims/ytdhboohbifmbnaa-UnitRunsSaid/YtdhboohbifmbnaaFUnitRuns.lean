/- UnitRuns holds: for every rule, state and schedule Run and First follow the reference period by period; no condition. -/
import Derived.Test.YtdhboohbifmbnaaEvs
import Derived.Test.YtdhboohbifmbnaaRowUnitRuns
namespace Go.Proofs.Ytdhboohbifmbnaa.FUnitRuns
open Go.RowKit Go.Proofs.YtdhboohbifmbnaaW.PrintWords Go.Proofs.YtdhboohbifmbnaaW.PrintMore Go.Proofs.Ytdhboohbifmbnaa.Evs Go.Proofs.Ytdhboohbifmbnaa.PUnitRuns 
set_option linter.unusedVariables false
set_option linter.unusedSimpArgs false
/-! names -/
theorem bt_bd (s : ByteArray) (i : Int) : 0 ≤ bt s i ∧ bt s i ≤ 255 := by
  unfold bt
  split
  · rename_i h
    have := (s[i.toNat]'h).toNat_lt
    omega
  · omega
def okc (c : Int) : Bool := decide ((65 ≤ c ∧ c ≤ 90) ∨ (48 ≤ c ∧ c ≤ 57))
theorem okc_t {c : Int} (h : (65 ≤ c ∧ c ≤ 90) ∨ (48 ≤ c ∧ c ≤ 57)) : okc c = true := decide_eq_true h
theorem okc_f {c : Int} (h : ¬ ((65 ≤ c ∧ c ≤ 90) ∨ (48 ≤ c ∧ c ≤ 57))) : okc c = false := decide_eq_false h
def allC (s : ByteArray) : Nat → Nat → Bool
  | 0, _ => true
  | d + 1, n => okc (bt s n) && allC s d (n + 1)
def nameB (s : ByteArray) : Bool := decide (1 ≤ s.size ∧ s.size ≤ 8 ∧ ¬ (48 ≤ bt s 0 ∧ bt s 0 ≤ 57)) && allC s s.size 0
theorem unit_named_l0 (s : ByteArray) (hs : s.size ≤ 8) : ∀ n, n ≤ s.size → Evt (fun k => unit_named.l0 k s (s.size : Int) (n : Int)) (allC s (s.size - n) n) := by
  refine down ?_ ?_
  · refine Evt.succ ?_
    simp only [unit_named.l0, Nat.sub_self, allC]
    exact Evt.ite_neg (by omega) (Evt.pure _)
  · intro n hn ih
    refine Evt.succ ?_
    obtain ⟨d, hd⟩ : ∃ d, s.size - n = d + 1 := ⟨s.size - n - 1, by omega⟩
    have hd' : s.size - (n + 1) = d := by omega
    rw [hd'] at ih
    rw [hd]
    simp only [unit_named.l0, allC]
    refine Evt.ite_pos (by omega) (Evt.ite_pos (by omega) (Evt.ite_pos (by omega) ?_))
    rw [wrap64_nat (by omega)]
    have bad : ¬ ((65 ≤ bt s n ∧ bt s n ≤ 90) ∨ (48 ≤ bt s n ∧ bt s n ≤ 57)) → false = (okc (bt s n) && allC s d (n + 1)) := fun h => by rw [okc_f h]; rfl
    have fine : ((65 ≤ bt s n ∧ bt s n ≤ 90) ∨ (48 ≤ bt s n ∧ bt s n ≤ 57)) → allC s d (n + 1) = (okc (bt s n) && allC s d (n + 1)) := fun h => by rw [okc_t h, Bool.true_and]
    refine Evt.ite (fun h1 => Evt.ite (fun h2 => Evt.of_eq (bad (by omega))) (fun h2 => Evt.ite (fun h3 => Evt.of_eq (bad (by omega))) (fun h3 => Evt.cast ih (fine (by omega)))))
      (fun h1 => Evt.ite (fun h2 => Evt.ite (fun h3 => Evt.of_eq (bad (by omega))) (fun h3 => Evt.ite (fun h4 => Evt.of_eq (bad (by omega))) (fun h4 => Evt.cast ih (fine (by omega))))) (fun h2 => Evt.cast ih (fine (by omega))))
theorem unit_named_ev (s : ByteArray) : Evt (fun k => unit_named.f k s) (nameB s) := by
  simp only [unit_named.f]
  have j0t : ∀ b, b = true → nameB s = false → Evt (fun k => unit_named.j0 k s b) (nameB s) := by
    intro b hb hn
    subst hb
    refine Evt.succ ?_
    simp only [unit_named.j0]
    exact Evt.ite_pos (by simp) (Evt.of_eq hn.symm)
  by_cases h0 : s.size = 0
  · refine Evt.ite_pos ((toList_nil s).2 h0) (j0t _ rfl ?_)
    unfold nameB
    rw [decide_eq_false (by omega)]
    rfl
  · refine Evt.ite_neg (fun h => h0 ((toList_nil s).1 h)) ?_
    by_cases h8 : s.size ≤ 8
    · refine Evt.ite_neg (by omega) (Evt.ite_pos (by omega) ?_)
      have go : ∀ b, b = decide (48 ≤ bt s 0 ∧ bt s 0 ≤ 57) → Evt (fun k => unit_named.j0 k s b) (nameB s) := by
        intro b hb
        by_cases hc : 48 ≤ bt s 0 ∧ bt s 0 ≤ 57
        · refine j0t b (by rw [hb]; exact decide_eq_true hc) ?_
          unfold nameB
          rw [decide_eq_false (by omega)]
          rfl
        · rw [decide_eq_false hc] at hb
          subst hb
          refine Evt.succ ?_
          simp only [unit_named.j0]
          refine Evt.ite_neg (by simp) ?_
          have := unit_named_l0 s h8 0 (by omega)
          refine Evt.cast this ?_
          unfold nameB
          rw [decide_eq_true (by omega)]
          rfl
      refine Evt.ite (fun h => go _ ?_) (fun h => go _ ?_)
      · exact decide_eq_decide.2 (by omega)
      · exact (decide_eq_false (by omega)).symm
    · refine Evt.ite_pos (by omega) (j0t _ rfl ?_)
      unfold nameB
      rw [decide_eq_false (by omega)]
      rfl
theorem in_eq (a b c : Int) : gridhallref3_In.f a b c = some (decide (b ≤ a ∧ a ≤ c)) := by
  unfold gridhallref3_In.f
  by_cases h : a ≥ b
  · rw [if_pos h]
    congr 1
    exact decide_eq_decide.2 (by omega)
  · rw [if_neg h, decide_eq_false (by omega)]
theorem ref_Named_l0 (s : ByteArray) (hs : s.size ≤ 8) : ∀ n, n ≤ s.size → Evt (fun k => gridhallref3_Named.l0 k s (s.size : Int) (n : Int)) (allC s (s.size - n) n) := by
  refine down ?_ ?_
  · refine Evt.succ ?_
    simp only [gridhallref3_Named.l0, Nat.sub_self, allC]
    exact Evt.ite_neg (by omega) (Evt.pure _)
  · intro n hn ih
    refine Evt.succ ?_
    obtain ⟨d, hd⟩ : ∃ d, s.size - n = d + 1 := ⟨s.size - n - 1, by omega⟩
    have hd' : s.size - (n + 1) = d := by omega
    rw [hd'] at ih
    rw [hd]
    simp only [gridhallref3_Named.l0, allC]
    refine Evt.ite_pos (by omega) (Evt.ite_pos (by omega) (Evt.ite_pos (by omega) ?_))
    have hb := bt_bd s n
    rw [wrap64_nat (by omega), wrap64_of (x := bt s n) (by omega) (by omega)]
    simp only [in_eq, Option.bind_some]
    have bad : ¬ ((65 ≤ bt s n ∧ bt s n ≤ 90) ∨ (48 ≤ bt s n ∧ bt s n ≤ 57)) → false = (okc (bt s n) && allC s d (n + 1)) := fun h => by rw [okc_f h]; rfl
    have fine : ((65 ≤ bt s n ∧ bt s n ≤ 90) ∨ (48 ≤ bt s n ∧ bt s n ≤ 57)) → allC s d (n + 1) = (okc (bt s n) && allC s d (n + 1)) := fun h => by rw [okc_t h, Bool.true_and]
    refine Evt.ite (fun h1 => Evt.cast ih (fine (by simp at h1; omega))) (fun h1 => Evt.ite (fun h2 => Evt.cast ih (fine (by simp at h2; omega))) (fun h2 => Evt.of_eq (bad (by simp at h1 h2; omega))))
theorem ref_Named_ev (s : ByteArray) : Evt (fun k => gridhallref3_Named.f k s) (nameB s) := by
  simp only [gridhallref3_Named.f]
  have j0t : ∀ b, b = true → nameB s = false → Evt (fun k => gridhallref3_Named.j0 k s b) (nameB s) := by
    intro b hb hn
    subst hb
    refine Evt.succ ?_
    simp only [gridhallref3_Named.j0]
    exact Evt.ite_pos (by simp) (Evt.of_eq hn.symm)
  by_cases h0 : s.size = 0
  · refine Evt.ite_pos (by omega) (j0t _ rfl ?_)
    unfold nameB
    rw [decide_eq_false (by omega)]
    rfl
  · refine Evt.ite_neg (by omega) ?_
    by_cases h8 : s.size ≤ 8
    · refine Evt.ite_neg (by omega) (Evt.ite_pos (by omega) ?_)
      have hb := bt_bd s 0
      rw [wrap64_of (x := bt s 0) (by omega) (by omega)]
      simp only [in_eq, Option.bind_some]
      by_cases hc : 48 ≤ bt s 0 ∧ bt s 0 ≤ 57
      · refine j0t _ (decide_eq_true hc) ?_
        unfold nameB
        rw [decide_eq_false (by omega)]
        rfl
      · rw [decide_eq_false hc]
        refine Evt.succ ?_
        simp only [gridhallref3_Named.j0]
        refine Evt.ite_neg (by simp) ?_
        refine Evt.cast (ref_Named_l0 s h8 0 (by omega)) ?_
        unfold nameB
        rw [decide_eq_true (by omega)]
        rfl
    · refine Evt.ite_pos (by omega) (j0t _ rfl ?_)
      unfold nameB
      rw [decide_eq_false (by omega)]
      rfl
/-! rules and states of a generator: name s; Least a, Most b, Up c, Down d, MinOn e, MinOff f, Start g; On o, Since t, Power q -/
def okR (a b c d e f g : Int) : Prop := (0 ≤ a ∧ a ≤ b) ∧ b ≤ 100000 ∧ (1 ≤ c ∧ c ≤ 100000) ∧ (1 ≤ d ∧ d ≤ 100000) ∧ (1 ≤ e ∧ e ≤ 24) ∧ (1 ≤ f ∧ f ≤ 24) ∧ (0 ≤ g ∧ g ≤ 1000000)
instance (a b c d e f g : Int) : Decidable (okR a b c d e f g) := by unfold okR; exact inferInstance
def ruleErr (s : ByteArray) (a b c d e f g : Int) : Int := if nameB s = true then (if okR a b c d e f g then 0 else 4) else 6
def okS (a b : Int) (o : Bool) (t q : Int) : Prop := (1 ≤ t ∧ t ≤ 200000) ∧ (o = true → a ≤ q ∧ q ≤ b)
instance (a b : Int) (o : Bool) (t q : Int) : Decidable (okS a b o t q) := by unfold okS; exact inferInstance
def stErr (s : ByteArray) (a b c d e f g : Int) (o : Bool) (t q : Int) : Int := if ruleErr s a b c d e f g = 0 then (if okS a b o t q then (if o = true ∨ q = 0 then 0 else 3) else 4) else ruleErr s a b c d e f g
section
variable (s : ByteArray) (a b c d e f g : Int)
theorem uCheck_ev : Evt (fun k => unit_Check.f k s a b c d e f g) (ruleErr s a b c d e f g) := by
  simp only [unit_Check.f]
  refine Evt.bind (unit_named_ev s) ?_
  by_cases h : nameB s = true
  · have no : ¬ okR a b c d e f g → 4 = ruleErr s a b c d e f g := fun hh => by unfold ruleErr; rw [if_pos h, if_neg hh]
    have ok : okR a b c d e f g → 0 = ruleErr s a b c d e f g := fun hh => by unfold ruleErr; rw [if_pos h, if_pos hh]
    refine Evt.ite_pos h ?_
    refine Evt.ite (fun x => Evt.of_eq (no (by unfold okR; omega))) (fun x1 => ?_)
    refine Evt.ite (fun x => Evt.of_eq (no (by unfold okR; omega))) (fun x2 => ?_)
    refine Evt.ite (fun x => Evt.of_eq (no (by unfold okR; omega))) (fun x3 => ?_)
    refine Evt.ite (fun x => Evt.of_eq (no (by unfold okR; omega))) (fun x4 => ?_)
    refine Evt.ite (fun x => Evt.of_eq (no (by unfold okR; omega))) (fun x5 => ?_)
    refine Evt.ite (fun x => Evt.of_eq (no (by unfold okR; omega))) (fun x6 => ?_)
    refine Evt.ite (fun x => Evt.of_eq (no (by unfold okR; omega))) (fun x7 => ?_)
    refine Evt.ite (fun x => Evt.of_eq (no (by unfold okR; omega))) (fun x8 => ?_)
    refine Evt.ite (fun x => Evt.of_eq (no (by unfold okR; omega))) (fun x9 => ?_)
    refine Evt.ite (fun x => Evt.of_eq (no (by unfold okR; omega))) (fun x10 => ?_)
    refine Evt.ite (fun x => Evt.of_eq (no (by unfold okR; omega))) (fun x11 => ?_)
    refine Evt.ite (fun x => Evt.of_eq (no (by unfold okR; omega))) (fun x12 => ?_)
    refine Evt.ite (fun x => Evt.of_eq (no (by unfold okR; omega))) (fun x13 => ?_)
    exact Evt.of_eq (ok (by unfold okR; omega))
  · exact Evt.ite_neg h (Evt.of_eq (by unfold ruleErr; rw [if_neg h]))
theorem RuleError_ev : Evt (fun k => gridhallref3_RuleError.f k s a b c d e f g) (ruleErr s a b c d e f g) := by
  simp only [gridhallref3_RuleError.f, in_eq, Option.bind_some, decide_eq_true_eq]
  refine Evt.bind (ref_Named_ev s) ?_
  by_cases h : nameB s = true
  · have no : ¬ okR a b c d e f g → 4 = ruleErr s a b c d e f g := fun hh => by unfold ruleErr; rw [if_pos h, if_neg hh]
    have ok : okR a b c d e f g → 0 = ruleErr s a b c d e f g := fun hh => by unfold ruleErr; rw [if_pos h, if_pos hh]
    refine Evt.ite_pos h ?_
    refine Evt.ite (fun x1 => ?_) (fun x => Evt.of_eq (no (by unfold okR; omega)))
    refine Evt.ite (fun x2 => ?_) (fun x => Evt.of_eq (no (by unfold okR; omega)))
    refine Evt.ite (fun x3 => ?_) (fun x => Evt.of_eq (no (by unfold okR; omega)))
    refine Evt.ite (fun x4 => ?_) (fun x => Evt.of_eq (no (by unfold okR; omega)))
    refine Evt.ite (fun x5 => ?_) (fun x => Evt.of_eq (no (by unfold okR; omega)))
    refine Evt.ite (fun x6 => ?_) (fun x => Evt.of_eq (no (by unfold okR; omega)))
    refine Evt.ite (fun x7 => ?_) (fun x => Evt.of_eq (no (by unfold okR; omega)))
    exact Evt.of_eq (ok (by unfold okR; omega))
  · exact Evt.ite_neg h (Evt.of_eq (by unfold ruleErr; rw [if_neg h]))
theorem ruleErr_ok (h : ruleErr s a b c d e f g = 0) : nameB s = true ∧ okR a b c d e f g := by
  unfold ruleErr at h
  by_cases h1 : nameB s = true
  · rw [if_pos h1] at h
    by_cases h2 : okR a b c d e f g
    · exact ⟨h1, h2⟩
    · rw [if_neg h2] at h
      omega
  · rw [if_neg h1] at h
    omega
variable (o : Bool) (t q : Int)
theorem stErr_ok (h : stErr s a b c d e f g o t q = 0) : ruleErr s a b c d e f g = 0 ∧ okR a b c d e f g ∧ okS a b o t q ∧ (o = true ∨ q = 0) := by
  unfold stErr at h
  by_cases h1 : ruleErr s a b c d e f g = 0
  · rw [if_pos h1] at h
    by_cases h2 : okS a b o t q
    · rw [if_pos h2] at h
      by_cases h3 : o = true ∨ q = 0
      · exact ⟨h1, (ruleErr_ok _ _ _ _ _ _ _ _ h1).2, h2, h3⟩
      · rw [if_neg h3] at h
        omega
    · rw [if_neg h2] at h
      omega
  · rw [if_neg h1] at h
    exact absurd h h1
theorem CheckState_ev : Evt (fun k => unit_CheckState.f k s a b c d e f g o t q) (stErr s a b c d e f g o t q) := by
  simp only [unit_CheckState.f]
  refine Evt.bind (uCheck_ev s a b c d e f g) ?_
  by_cases h : ruleErr s a b c d e f g = 0
  · refine Evt.ite_pos h ?_
    have no : ¬ okS a b o t q → 4 = stErr s a b c d e f g o t q := fun hh => by unfold stErr; rw [if_pos h, if_neg hh]
    have ok : okS a b o t q → (o = true ∨ q = 0) → 0 = stErr s a b c d e f g o t q := fun hh h2 => by unfold stErr; rw [if_pos h, if_pos hh, if_pos h2]
    have fm : okS a b o t q → ¬ (o = true ∨ q = 0) → 3 = stErr s a b c d e f g o t q := fun hh h2 => by unfold stErr; rw [if_pos h, if_pos hh, if_neg h2]
    have j1 : ∀ v, (v = false → okS a b o t q) → (v = true → ¬ okS a b o t q) → Evt (fun k => unit_CheckState.j1 k v o t q) (stErr s a b c d e f g o t q) := by
      intro v h1 h2
      refine Evt.succ ?_
      simp only [unit_CheckState.j1]
      cases v with
      | true => exact Evt.ite_pos (by simp) (Evt.of_eq (no (h2 rfl)))
      | false =>
        refine Evt.ite_neg (by simp) (Evt.ite (fun x => Evt.of_eq (ok (h1 rfl) (.inl x))) (fun x => Evt.ite (fun y => Evt.of_eq (ok (h1 rfl) (.inr y))) (fun y => Evt.of_eq (fm (h1 rfl) (fun z => z.elim x y)))))
    have j0 : ∀ v, v = decide (¬ (1 ≤ t ∧ t ≤ 200000)) → Evt (fun k => unit_CheckState.j0 k v s a b c d e f g o t q) (stErr s a b c d e f g o t q) := by
      intro v hv
      refine Evt.succ ?_
      simp only [unit_CheckState.j0]
      by_cases ht : 1 ≤ t ∧ t ≤ 200000
      · refine Evt.ite_neg (by simp [hv, ht]) (Evt.ite (fun x => Evt.ite (fun y => ?_) (fun y => ?_)) (fun x => ?_))
        · exact j1 _ (fun z => by simp at z) (fun _ z => by have := z.2 x; omega)
        · exact j1 _ (fun z => ⟨ht, fun _ => by simp at z; omega⟩) (fun z w => by have := w.2 x; simp at z; omega)
        · exact j1 _ (fun _ => ⟨ht, fun z => absurd z x⟩) (fun z => by simp at z)
      · exact Evt.ite_pos (by rw [hv]; exact decide_eq_true ht) (Evt.of_eq (no (fun z => ht z.1)))
    refine Evt.ite (fun x => j0 _ ?_) (fun x => j0 _ ?_)
    · exact (decide_eq_true (by omega)).symm
    · exact decide_eq_decide.2 (by omega)
  · exact Evt.ite_neg h (Evt.of_eq (by unfold stErr; rw [if_neg h]))
theorem StateError_ev : Evt (fun k => gridhallref3_StateError.f k s a b c d e f g o t q) (stErr s a b c d e f g o t q) := by
  simp only [gridhallref3_StateError.f, in_eq, Option.bind_some]
  refine Evt.bind (RuleError_ev s a b c d e f g) ?_
  by_cases h : ruleErr s a b c d e f g = 0
  · refine Evt.ite_pos h ?_
    have no : ¬ okS a b o t q → 4 = stErr s a b c d e f g o t q := fun hh => by unfold stErr; rw [if_pos h, if_neg hh]
    have ok : okS a b o t q → (o = true ∨ q = 0) → 0 = stErr s a b c d e f g o t q := fun hh h2 => by unfold stErr; rw [if_pos h, if_pos hh, if_pos h2]
    have fm : okS a b o t q → ¬ (o = true ∨ q = 0) → 3 = stErr s a b c d e f g o t q := fun hh h2 => by unfold stErr; rw [if_pos h, if_pos hh, if_neg h2]
    have j1 : ∀ v, (v = false → okS a b o t q) → (v = true → ¬ okS a b o t q) → Evt (fun k => gridhallref3_StateError.j0 k v o t q) (stErr s a b c d e f g o t q) := by
      intro v h1 h2
      refine Evt.succ ?_
      simp only [gridhallref3_StateError.j0]
      cases v with
      | true => exact Evt.ite_pos (by simp) (Evt.of_eq (no (h2 rfl)))
      | false =>
        refine Evt.ite_neg (by simp) (Evt.ite (fun x => Evt.of_eq (ok (h1 rfl) (.inl x))) (fun x => Evt.ite (fun y => Evt.of_eq (ok (h1 rfl) (.inr y))) (fun y => Evt.of_eq (fm (h1 rfl) (fun z => z.elim x y)))))
    refine Evt.ite (fun x => Evt.ite (fun y => ?_) (fun y => ?_)) (fun x => ?_)
    · have x := of_decide_eq_true x
      exact j1 _ (fun z => ⟨x, fun _ => by simpa using z⟩) (fun z w => by have := w.2 y; simp [this] at z)
    · have x := of_decide_eq_true x
      exact j1 _ (fun _ => ⟨x, fun z => absurd z y⟩) (fun z => by simp at z)
    · exact j1 _ (fun z => by simp at z) (fun _ z => x (decide_eq_true z.1))
  · exact Evt.ite_neg h (Evt.of_eq (by unfold stErr; rw [if_neg h]))
/-- The state after a period with the power p. -/
def movR (p : Int) : Bool × Int × Int × Int × Int :=
  if ¬ (p = -1) ∧ ¬ (a ≤ p ∧ p ≤ b) then (false, 0, 0, 0, 4) else
  if o = true then
    (if p = -1 then (if t < e then (false, 0, 0, 0, 12) else (false, 1, 0, 0, 0)) else
      (if -d ≤ p - q ∧ p - q ≤ c then (true, mn (t + 1) 200000, p, 0, 0) else (false, 0, 0, 0, 17)))
  else
    (if p = -1 then (false, mn (t + 1) 200000, 0, 0, 0) else (if t < f then (false, 0, 0, 0, 12) else (true, 1, p, g, 0)))
theorem Next_ev (p : Int) : Evt (fun k => unit_Next.f k s a b c d e f g o t q p) (if stErr s a b c d e f g o t q = 0 then movR a b c d e f g o t q p else (false, 0, 0, 0, stErr s a b c d e f g o t q)) := by
  simp only [unit_Next.f]
  refine Evt.bind (CheckState_ev s a b c d e f g o t q) ?_
  by_cases h : stErr s a b c d e f g o t q = 0
  · rw [if_pos h]
    refine Evt.ite_pos h ?_
    obtain ⟨_, ⟨r1, r2, r3, r4, r5, r6, r7⟩, ⟨s1, s2⟩, s3⟩ := stErr_ok s a b c d e f g o t q h
    have bad : ¬ (p = -1) → ¬ (a ≤ p ∧ p ≤ b) → ∀ v w, v = true → Evt (fun k => unit_Next.j0 k p w v s a b c d e f g o t q) (movR a b c d e f g o t q p) := by
      intro h1 h2 v w hv
      refine Evt.succ ?_
      simp only [unit_Next.j0]
      refine Evt.ite_pos hv (Evt.of_eq ?_)
      unfold movR
      rw [if_pos ⟨h1, h2⟩]
    have fine : (p = -1 ∨ (a ≤ p ∧ p ≤ b)) → ∀ v, v = false → Evt (fun k => unit_Next.j0 k p (p == -1) v s a b c d e f g o t q) (movR a b c d e f g o t q p) := by
      intro h1 v hv
      refine Evt.succ ?_
      simp only [unit_Next.j0]
      refine Evt.ite_neg (by simp [hv]) ?_
      have e0 : movR a b c d e f g o t q p = (if o = true then
    (if p = -1 then (if t < e then (false, 0, 0, 0, 12) else (false, 1, 0, 0, 0)) else
      (if -d ≤ p - q ∧ p - q ≤ c then (true, mn (t + 1) 200000, p, 0, 0) else (false, 0, 0, 0, 17)))
  else
    (if p = -1 then (false, mn (t + 1) 200000, 0, 0, 0) else (if t < f then (false, 0, 0, 0, 12) else (true, 1, p, g, 0)))) := by
        unfold movR
        exact if_neg (by omega)
      rw [e0]
      have w1 := wrap64_of (x := t + 1) (by omega) (by omega)
      cases o with
      | true =>
        have s4 := s2 rfl
        refine Evt.ite_pos (by simp) ?_
        rw [if_pos rfl]
        by_cases hp : p = -1
        · rw [if_pos hp]
          subst hp
          refine Evt.ite_pos (by simp) ?_
          by_cases ht : t < e
          · rw [if_pos ht, decide_eq_true ht]
            refine Evt.succ ?_
            simp only [unit_Next.j1]
            refine Evt.ite_pos (by simp) (Evt.succ ?_)
            simp only [unit_Next.j2]
            exact Evt.ite_pos (by simp) (Evt.pure _)
          · rw [if_neg ht, decide_eq_false ht]
            refine Evt.succ ?_
            simp only [unit_Next.j1]
            refine Evt.ite_neg (by simp) (Evt.ite_pos (by simp) (Evt.succ ?_))
            simp only [unit_Next.j2]
            refine Evt.ite_neg (by simp) (Evt.ite_pos (by simp) (Evt.ite_pos (by simp) (Evt.succ ?_)))
            simp only [unit_Next.j3]
            exact Evt.ite_neg (by simp) (Evt.ite_neg (by simp) (Evt.ite_pos (by simp) (Evt.pure _)))
        · have hb : (p == -1) = false := by simpa using hp
          rw [if_neg hp, hb]
          refine Evt.ite_neg (by simp) (Evt.succ ?_)
          simp only [unit_Next.j1]
          refine Evt.ite_neg (by simp) (Evt.ite_pos (by simp) (Evt.succ ?_))
          simp only [unit_Next.j2]
          refine Evt.ite_neg (by simp) (Evt.ite_pos (by simp) (Evt.ite_neg (by simp) ?_))
          rw [wrap64_of (x := q + c) (by omega) (by omega), wrap64_of (x := q - d) (by omega) (by omega)]
          refine Evt.ite (fun x => ?_) (fun x => ?_)
          · rw [if_neg (by omega)]
            refine Evt.succ ?_
            simp only [unit_Next.j3]
            exact Evt.ite_pos (by simp) (Evt.pure _)
          · by_cases y : p < q - d
            · rw [if_neg (by omega), decide_eq_true y]
              refine Evt.succ ?_
              simp only [unit_Next.j3]
              exact Evt.ite_pos (by simp) (Evt.pure _)
            · rw [if_pos (by omega), decide_eq_false y]
              refine Evt.succ ?_
              simp only [unit_Next.j3]
              refine Evt.ite_neg (by simp) (Evt.ite_pos (by simp) ?_)
              rw [w1, mx_ge (a := p) (b := 0) (by omega)]
              exact Evt.pure _
      | false =>
        have s4 : q = 0 := by simpa using s3
        refine Evt.ite_neg (by simp) (Evt.succ ?_)
        simp only [unit_Next.j1]
        refine Evt.ite_neg (by simp) (Evt.ite_neg (by simp) ?_)
        rw [if_neg (by simp)]
        by_cases hp : p = -1
        · rw [if_pos hp]
          subst hp
          refine Evt.ite_pos (by simp) (Evt.succ ?_)
          simp only [unit_Next.j2]
          refine Evt.ite_neg (by simp) (Evt.ite_neg (by simp) (Evt.succ ?_))
          simp only [unit_Next.j3]
          refine Evt.ite_neg (by simp) (Evt.ite_pos (by simp) ?_)
          rw [w1, mx_le (a := -1) (b := 0) (by omega)]
          exact Evt.pure _
        · have hb : (p == -1) = false := by simpa using hp
          rw [if_neg hp, hb]
          refine Evt.ite_neg (by simp) ?_
          by_cases ht : t < f
          · rw [if_pos ht, decide_eq_true ht]
            refine Evt.succ ?_
            simp only [unit_Next.j2]
            exact Evt.ite_pos (by simp) (Evt.pure _)
          · rw [if_neg ht, decide_eq_false ht]
            refine Evt.succ ?_
            simp only [unit_Next.j2]
            refine Evt.ite_neg (by simp) (Evt.ite_neg (by simp) (Evt.succ ?_))
            simp only [unit_Next.j3]
            exact Evt.ite_neg (by simp) (Evt.ite_neg (by simp) (Evt.ite_neg (by simp) (Evt.pure _)))
    refine Evt.ite (fun x => fine (.inl x) _ rfl) (fun x => Evt.ite (fun y => bad x (by omega) _ _ rfl) (fun y => ?_))
    by_cases z : p > b
    · exact bad x (by omega) _ _ (decide_eq_true z)
    · exact fine (.inr (by omega)) _ (decide_eq_false z)
  · rw [if_neg h]
    exact Evt.ite_neg h (Evt.pure _)
theorem Moved_ev (p : Int) (hp64 : -9223372036854775808 ≤ p ∧ p ≤ 9223372036854775807) (h : stErr s a b c d e f g o t q = 0) : Evt (fun k => gridhallref3_Moved.f k s a b c d e f g o t q p) (movR a b c d e f g o t q p) := by
  obtain ⟨_, ⟨r1, r2, r3, r4, r5, r6, r7⟩, ⟨s1, s2⟩, s3⟩ := stErr_ok s a b c d e f g o t q h
  simp only [gridhallref3_Moved.f, in_eq, Option.bind_some]
  have fine : (p = -1 ∨ (a ≤ p ∧ p ≤ b)) → ∀ v, v = false → Evt (fun k => gridhallref3_Moved.j0 k p (p != -1) v s a b c d e f g o t q) (movR a b c d e f g o t q p) := by
    intro h1 v hv
    refine Evt.succ ?_
    simp only [gridhallref3_Moved.j0, in_eq, Option.bind_some]
    refine Evt.ite_neg (by simp [hv]) ?_
    have e0 : movR a b c d e f g o t q p = (if o = true then
    (if p = -1 then (if t < e then (false, 0, 0, 0, 12) else (false, 1, 0, 0, 0)) else
      (if -d ≤ p - q ∧ p - q ≤ c then (true, mn (t + 1) 200000, p, 0, 0) else (false, 0, 0, 0, 17)))
  else
    (if p = -1 then (false, mn (t + 1) 200000, 0, 0, 0) else (if t < f then (false, 0, 0, 0, 12) else (true, 1, p, g, 0)))) := by
      unfold movR
      exact if_neg (by omega)
    rw [e0]
    have w1 := wrap64_of (x := t + 1) (by omega) (by omega)
    have e2 : (p != -1) = true → q ≤ b → 0 ≤ q → ∀ (v : Bool) (u : Int), Evt (fun k => gridhallref3_Moved.j2 k p (p != -1) s a b c d e f g o t q v u q) (if -d ≤ p - q ∧ p - q ≤ c then (v, u, p, 0, 0) else (false, 0, 0, 0, 17)) := by
      intro x1 x2 x3 v u
      have x4 : a ≤ p ∧ p ≤ b := by
        rcases h1 with h1 | h1
        · simp [h1] at x1
        · exact h1
      refine Evt.succ ?_
      simp only [gridhallref3_Moved.j2, in_eq, Option.bind_some]
      refine Evt.ite_pos x1 ?_
      rw [wrap64_of (x := p - q) (by omega) (by omega), wrap64_of (x := -d) (by omega) (by omega)]
      refine Evt.ite (fun y => ?_) (fun y => ?_)
      · exact Evt.of_eq (if_pos (of_decide_eq_true y)).symm
      · exact Evt.of_eq (if_neg (fun z => y (decide_eq_true z))).symm
    have e3 : (if t < 200000 then t + 1 else t) = mn (t + 1) 200000 := by
      unfold mn
      repeat' split
      all_goals omega
    cases o with
    | true =>
      have s4 := s2 rfl
      rw [if_pos rfl]
      by_cases hp : p = -1
      · rw [if_pos hp]
        subst hp
        refine Evt.ite_pos (by simp) (Evt.ite_pos (by simp) ?_)
        refine Evt.ite (fun x => ?_) (fun x => ?_)
        · rw [if_pos x]
          refine Evt.succ ?_
          simp only [gridhallref3_Moved.j1]
          exact Evt.ite_pos (by simp) (Evt.pure _)
        · rw [if_neg x]
          refine Evt.succ ?_
          simp only [gridhallref3_Moved.j1]
          exact Evt.ite_neg (by simp) (Evt.ite_neg (by simp) (Evt.pure _))
      · have hb : (p != -1) = true := by simpa using hp
        rw [if_neg hp]
        refine Evt.ite_neg (by simp [hb]) ?_
        rw [w1, ← e3]
        refine Evt.ite (fun x => ?_) (fun x => ?_)
        · rw [if_pos x]
          exact e2 hb (by omega) (by omega) true (t + 1)
        · rw [if_neg x]
          exact e2 hb (by omega) (by omega) true t
    | false =>
      have s4 : q = 0 := by simpa using s3
      rw [if_neg (by simp)]
      by_cases hp : p = -1
      · rw [if_pos hp]
        subst hp
        refine Evt.ite_neg (by simp) ?_
        rw [w1, ← e3]
        refine Evt.ite (fun x => ?_) (fun x => ?_)
        · rw [if_pos x]
          refine Evt.succ ?_
          simp only [gridhallref3_Moved.j2, in_eq, Option.bind_some]
          exact Evt.ite_neg (by simp) (Evt.of_eq (by rw [s4]))
        · rw [if_neg x]
          refine Evt.succ ?_
          simp only [gridhallref3_Moved.j2, in_eq, Option.bind_some]
          exact Evt.ite_neg (by simp) (Evt.of_eq (by rw [s4]))
      · have hb : (p != -1) = true := by simpa using hp
        rw [if_neg hp, hb]
        refine Evt.ite_pos (by simp) (Evt.ite_neg (by simp) ?_)
        by_cases ht : t < f
        · rw [if_pos ht, decide_eq_true ht]
          refine Evt.succ ?_
          simp only [gridhallref3_Moved.j1]
          exact Evt.ite_pos (by simp) (Evt.pure _)
        · rw [if_neg ht, decide_eq_false ht]
          refine Evt.succ ?_
          simp only [gridhallref3_Moved.j1]
          exact Evt.ite_neg (by simp) (Evt.ite_pos (by simp) (Evt.pure _))
  by_cases hp : p = -1
  · exact Evt.ite_pos hp (fine (.inl hp) _ rfl)
  · refine Evt.ite_neg hp ?_
    by_cases hr : a ≤ p ∧ p ≤ b
    · exact fine (.inr hr) _ (by rw [decide_eq_true hr]; rfl)
    · refine Evt.succ ?_
      simp only [gridhallref3_Moved.j0]
      refine Evt.ite_pos (by rw [decide_eq_false hr]; rfl) (Evt.of_eq ?_)
      unfold movR
      rw [if_pos ⟨hp, hr⟩]
end
abbrev Us := S47
abbrev zUs : Us := z47
section
variable (s : ByteArray) (a b c d e f g : Int)
/-- The state after a permitted period is a valid one. -/
theorem mov_valid (o : Bool) (t q p : Int) (h : stErr s a b c d e f g o t q = 0) (hm : (movR a b c d e f g o t q p).2.2.2.2 = 0) :
    stErr s a b c d e f g (movR a b c d e f g o t q p).1 (movR a b c d e f g o t q p).2.1 (movR a b c d e f g o t q p).2.2.1 = 0 ∧ 0 ≤ (movR a b c d e f g o t q p).2.2.2.1 ∧ (movR a b c d e f g o t q p).2.2.2.1 ≤ 1000000 := by
  obtain ⟨h0, hr, ⟨s1, s2⟩, s3⟩ := stErr_ok s a b c d e f g o t q h
  obtain ⟨r1, r2, r3, r4, r5, r6, r7⟩ := hr
  have mk : ∀ (o' : Bool) (t' q' : Int), (1 ≤ t' ∧ t' ≤ 200000) → (o' = true → a ≤ q' ∧ q' ≤ b) → (o' = true ∨ q' = 0) → stErr s a b c d e f g o' t' q' = 0 := by
    intro o' t' q' k1 k2 k3
    unfold stErr
    rw [if_pos h0, if_pos (show okS a b o' t' q' from ⟨k1, k2⟩), if_pos k3]
  have hmn : 1 ≤ mn (t + 1) 200000 ∧ mn (t + 1) 200000 ≤ 200000 := by
    unfold mn
    split <;> omega
  by_cases c1 : ¬ (p = -1) ∧ ¬ (a ≤ p ∧ p ≤ b)
  · have e1 : movR a b c d e f g o t q p = (false, 0, 0, 0, 4) := by unfold movR; exact if_pos c1
    rw [e1] at hm
    exact absurd hm (by decide)
  · have e1 : movR a b c d e f g o t q p = (if o = true then
    (if p = -1 then (if t < e then (false, 0, 0, 0, 12) else (false, 1, 0, 0, 0)) else
      (if -d ≤ p - q ∧ p - q ≤ c then (true, mn (t + 1) 200000, p, 0, 0) else (false, 0, 0, 0, 17)))
  else
    (if p = -1 then (false, mn (t + 1) 200000, 0, 0, 0) else (if t < f then (false, 0, 0, 0, 12) else (true, 1, p, g, 0)))) := by unfold movR; exact if_neg c1
    rw [e1] at hm ⊢
    clear e1
    by_cases c2 : o = true
    · rw [if_pos c2] at hm ⊢
      by_cases c3 : p = -1
      · rw [if_pos c3] at hm ⊢
        by_cases c4 : t < e
        · rw [if_pos c4] at hm
          exact absurd hm (by decide)
        · rw [if_neg c4]
          exact ⟨mk false 1 0 (by omega) (fun z => by simp at z) (.inr rfl), by show (0 : Int) ≤ 0; omega, by show (0 : Int) ≤ 1000000; omega⟩
      · rw [if_neg c3] at hm ⊢
        by_cases c4 : -d ≤ p - q ∧ p - q ≤ c
        · rw [if_pos c4]
          exact ⟨mk true _ p hmn (fun _ => by omega) (.inl rfl), by show (0 : Int) ≤ 0; omega, by show (0 : Int) ≤ 1000000; omega⟩
        · rw [if_neg c4] at hm
          exact absurd hm (by decide)
    · rw [if_neg c2] at hm ⊢
      by_cases c3 : p = -1
      · rw [if_pos c3]
        exact ⟨mk false _ 0 hmn (fun z => by simp at z) (.inr rfl), by show (0 : Int) ≤ 0; omega, by show (0 : Int) ≤ 1000000; omega⟩
      · rw [if_neg c3] at hm ⊢
        by_cases c4 : t < f
        · rw [if_pos c4] at hm
          exact absurd hm (by decide)
        · rw [if_neg c4]
          exact ⟨mk true 1 p (by omega) (fun _ => by omega) (.inl rfl), r7.1, r7.2⟩
/-- A schedule's states and its cost, or the error. -/
def runR (L : List Int) : Nat → Nat → Bool → Int → Int → List Us → Int → List Us × Int × Int
  | 0, _, _, _, _, acc, sum => (acc, sum, 0)
  | r + 1, n, o, t, q, acc, sum =>
    if (movR a b c d e f g o t q (rd L (n : Int))).2.2.2.2 = 0 then
      runR L r (n + 1) (movR a b c d e f g o t q (rd L (n : Int))).1 (movR a b c d e f g o t q (rd L (n : Int))).2.1 (movR a b c d e f g o t q (rd L (n : Int))).2.2.1
        (acc ++ [⟨(movR a b c d e f g o t q (rd L (n : Int))).1, (movR a b c d e f g o t q (rd L (n : Int))).2.1, (movR a b c d e f g o t q (rd L (n : Int))).2.2.1⟩]) (sum + (movR a b c d e f g o t q (rd L (n : Int))).2.2.2.1)
    else ([], 0, (movR a b c d e f g o t q (rd L (n : Int))).2.2.2.2)
def firstR (L : List Int) : Nat → Nat → Bool → Int → Int → Int × Int
  | 0, _, _, _, _ => (0, 8)
  | r + 1, n, o, t, q =>
    if (movR a b c d e f g o t q (rd L (n : Int))).2.2.2.2 = 0 then
      firstR L r (n + 1) (movR a b c d e f g o t q (rd L (n : Int))).1 (movR a b c d e f g o t q (rd L (n : Int))).2.1 (movR a b c d e f g o t q (rd L (n : Int))).2.2.1
    else ((n : Int), (movR a b c d e f g o t q (rd L (n : Int))).2.2.2.2)
theorem run_more (L : List Int) : ∀ (r n : Nat) (o : Bool) (t q : Int) (acc : List Us) (sum : Int), (runR a b c d e f g L r n o t q acc sum).2.2 = 0 → ∃ more : List Us, (runR a b c d e f g L r n o t q acc sum).1 = acc ++ more ∧ more.length = r := by
  intro r
  induction r with
  | zero => intro n o t q acc sum _; exact ⟨[], by simp [runR], rfl⟩
  | succ r ih =>
    intro n o t q acc sum h
    simp only [runR] at h ⊢
    by_cases c1 : (movR a b c d e f g o t q (rd L (n : Int))).2.2.2.2 = 0
    · rw [if_pos c1] at h ⊢
      obtain ⟨m, h1, h2⟩ := ih _ _ _ _ _ _ h
      refine ⟨[⟨(movR a b c d e f g o t q (rd L (n : Int))).1, (movR a b c d e f g o t q (rd L (n : Int))).2.1, (movR a b c d e f g o t q (rd L (n : Int))).2.2.1⟩] ++ m, ?_, by simp [h2]⟩
      rw [h1, List.append_assoc]
    · rw [if_neg c1] at h
      exact absurd h c1
theorem Run_l0 (L : List Int) (hl : L.length ≤ 24) (acc0 : Unit) : ∀ n, n ≤ L.length → ∀ (o : Bool) (t q : Int) (acc : List Us) (sum : Int), stErr s a b c d e f g o t q = 0 → acc.length = n → 0 ≤ sum → sum ≤ 1000000 * (n : Int) →
    Evt (fun k => unit_Run.l0 k acc sum L (L.length : Int) (n : Int) s a b c d e f g o t q) (runR a b c d e f g L (L.length - n) n o t q acc sum) := by
  refine down ?_ ?_
  · intro o t q acc sum _ _ _ _
    refine Evt.succ ?_
    simp only [unit_Run.l0, Nat.sub_self, runR]
    exact Evt.ite_neg (by omega) (Evt.pure _)
  · intro n hn ih o t q acc sum hv ha h1 h2
    obtain ⟨r, hr⟩ : ∃ r, L.length - n = r + 1 := ⟨L.length - n - 1, by omega⟩
    rw [show L.length - (n + 1) = r by omega] at ih
    rw [hr]
    refine Evt.succ ?_
    simp only [unit_Run.l0]
    refine Evt.ite_pos (by omega) (Evt.ite_pos (by omega) (Evt.ite_pos (by omega) (Evt.bind (Next_ev s a b c d e f g o t q _) ?_)))
    rw [if_pos hv]
    by_cases c1 : (movR a b c d e f g o t q (rd L (n : Int))).2.2.2.2 = 0
    · have hm := mov_valid s a b c d e f g o t q _ hv c1
      refine Evt.ite_pos c1 (Evt.ite_pos (by omega) ?_)
      rw [wrap64_of (x := sum + (movR a b c d e f g o t q (rd L (n : Int))).2.2.2.1) (by omega) (by omega), wrap64_nat (by omega)]
      refine Evt.cast (ih _ _ _ _ _ hm.1 (by simp [ha]) (by omega) (by omega)) ?_
      simp only [runR]
      exact (if_pos c1).symm
    · refine Evt.ite_neg c1 (Evt.of_eq ?_)
      simp only [runR]
      exact (if_neg c1).symm
theorem First_l0 (L : List Int) (hl : L.length ≤ 24) : ∀ n, n ≤ L.length → ∀ (o : Bool) (t q : Int), stErr s a b c d e f g o t q = 0 →
    Evt (fun k => unit_First.l0 k L (L.length : Int) (n : Int) s a b c d e f g o t q) (firstR a b c d e f g L (L.length - n) n o t q) := by
  refine down ?_ ?_
  · intro o t q _
    refine Evt.succ ?_
    simp only [unit_First.l0, Nat.sub_self, firstR]
    exact Evt.ite_neg (by omega) (Evt.pure _)
  · intro n hn ih o t q hv
    obtain ⟨r, hr⟩ : ∃ r, L.length - n = r + 1 := ⟨L.length - n - 1, by omega⟩
    rw [show L.length - (n + 1) = r by omega] at ih
    rw [hr]
    refine Evt.succ ?_
    simp only [unit_First.l0]
    refine Evt.ite_pos (by omega) (Evt.ite_pos (by omega) (Evt.ite_pos (by omega) (Evt.bind (Next_ev s a b c d e f g o t q _) ?_)))
    rw [if_pos hv]
    by_cases c1 : (movR a b c d e f g o t q (rd L (n : Int))).2.2.2.2 = 0
    · have hm := mov_valid s a b c d e f g o t q _ hv c1
      rw [wrap64_nat (by omega)]
      refine Evt.ite_pos c1 (Evt.cast (ih _ _ _ hm.1) ?_)
      simp only [firstR]
      exact (if_pos c1).symm
    · refine Evt.ite_neg c1 (Evt.of_eq ?_)
      simp only [firstR]
      exact (if_neg c1).symm
variable (o : Bool) (t q : Int)
def runA (L : List Int) : List Us × Int × Int := if stErr s a b c d e f g o t q = 0 then (if L.length > 24 then ([], 0, 2) else runR a b c d e f g L L.length 0 o t q [] 0) else ([], 0, stErr s a b c d e f g o t q)
def firstA (L : List Int) : Int × Int := if stErr s a b c d e f g o t q = 0 then (if L.length > 24 then (0, 2) else firstR a b c d e f g L L.length 0 o t q) else (0, stErr s a b c d e f g o t q)
theorem Run_ev (L : List Int) : Evt (fun k => unit_Run.f k s a b c d e f g o t q L) (runA s a b c d e f g o t q L) := by
  simp only [unit_Run.f]
  refine Evt.bind (CheckState_ev s a b c d e f g o t q) ?_
  by_cases h : stErr s a b c d e f g o t q = 0
  · have e0 : runA s a b c d e f g o t q L = (if L.length > 24 then ([], 0, 2) else runR a b c d e f g L L.length 0 o t q [] 0) := by unfold runA; exact if_pos h
    rw [e0]
    refine Evt.ite_pos h ?_
    by_cases h2 : L.length > 24
    · rw [if_pos h2]
      exact Evt.ite_pos (by omega) (Evt.pure _)
    · rw [if_neg h2]
      exact Evt.ite_neg (by omega) (Run_l0 s a b c d e f g L (by omega) () 0 (by omega) o t q [] 0 h rfl (by omega) (by omega))
  · exact Evt.ite_neg h (Evt.of_eq (by unfold runA; rw [if_neg h]))
theorem First_ev (L : List Int) : Evt (fun k => unit_First.f k s a b c d e f g o t q L) (firstA s a b c d e f g o t q L) := by
  simp only [unit_First.f]
  refine Evt.bind (CheckState_ev s a b c d e f g o t q) ?_
  by_cases h : stErr s a b c d e f g o t q = 0
  · have e0 : firstA s a b c d e f g o t q L = (if L.length > 24 then (0, 2) else firstR a b c d e f g L L.length 0 o t q) := by unfold firstA; exact if_pos h
    rw [e0]
    refine Evt.ite_pos h ?_
    by_cases h2 : L.length > 24
    · rw [if_pos h2]
      exact Evt.ite_pos (by omega) (Evt.pure _)
    · rw [if_neg h2]
      exact Evt.ite_neg (by omega) (First_l0 s a b c d e f g L (by omega) 0 (by omega) o t q h)
  · exact Evt.ite_neg h (Evt.of_eq (by unfold firstA; rw [if_neg h]))
end
section
variable (s : ByteArray) (a b c d e f g : Int)
theorem law_l0 (L : List Int) (hl : L.length ≤ 24) (hw : ∀ y ∈ L, (Lit.int .i64 y).wf = true) (x10 : List Us) (x11 x12 x13 x14 : Int) : ∀ n, n ≤ L.length → ∀ (o : Bool) (t q : Int) (acc : List Us) (sum : Int), stErr s a b c d e f g o t q = 0 → acc.length = n → 0 ≤ sum → sum ≤ 1000000 * (n : Int) →
    runR a b c d e f g L (L.length - n) n o t q acc sum = (x10, x11, x12) → firstR a b c d e f g L (L.length - n) n o t q = (x13, x14) →
    Evt (fun k => gridhalllaw3_UnitRuns.l0 k L x10 x11 x12 x13 x14 sum L (L.length : Int) (n : Int) s a b c d e f g o t q) true := by
  refine down ?_ ?_
  · intro o t q acc sum _ ha _ _ h1 h2
    rw [Nat.sub_self] at h1 h2
    simp only [runR, firstR, Prod.mk.injEq] at h1 h2
    obtain ⟨rfl, rfl, rfl⟩ := h1
    obtain ⟨rfl, rfl⟩ := h2
    refine Evt.succ ?_
    simp only [gridhalllaw3_UnitRuns.l0]
    exact Evt.ite_neg (by omega) (Evt.ite_pos trivial (Evt.ite_pos (by omega) (Evt.ite_pos trivial (Evt.ite_pos trivial (Evt.of_eq rfl)))))
  · intro n hn ih o t q acc sum hv ha g1 g2 h1 h2
    obtain ⟨r, hr⟩ : ∃ r, L.length - n = r + 1 := ⟨L.length - n - 1, by omega⟩
    rw [show L.length - (n + 1) = r by omega] at ih
    rw [hr] at h1 h2
    have hw64 : -9223372036854775808 ≤ rd L (n : Int) ∧ rd L (n : Int) ≤ 9223372036854775807 := i64_wf (hw _ (getD_mem (z := (0 : Int)) hn))
    refine Evt.succ ?_
    simp only [gridhalllaw3_UnitRuns.l0]
    refine Evt.ite_pos (by omega) (Evt.ite_pos (by omega) (Evt.ite_pos (by omega) (Evt.bind (Moved_ev s a b c d e f g o t q _ hw64 hv) ?_)))
    have r1 : (movR a b c d e f g o t q (rd L (n : Int))).2.2.2.2 = 0 → runR a b c d e f g L (r + 1) n o t q acc sum = runR a b c d e f g L r (n + 1) (movR a b c d e f g o t q (rd L (n : Int))).1 (movR a b c d e f g o t q (rd L (n : Int))).2.1 (movR a b c d e f g o t q (rd L (n : Int))).2.2.1
        (acc ++ [⟨(movR a b c d e f g o t q (rd L (n : Int))).1, (movR a b c d e f g o t q (rd L (n : Int))).2.1, (movR a b c d e f g o t q (rd L (n : Int))).2.2.1⟩]) (sum + (movR a b c d e f g o t q (rd L (n : Int))).2.2.2.1) := fun c => by simp only [runR]; exact if_pos c
    have r2 : ¬ (movR a b c d e f g o t q (rd L (n : Int))).2.2.2.2 = 0 → runR a b c d e f g L (r + 1) n o t q acc sum = ([], 0, (movR a b c d e f g o t q (rd L (n : Int))).2.2.2.2) := fun c => by simp only [runR]; exact if_neg c
    have f1 : (movR a b c d e f g o t q (rd L (n : Int))).2.2.2.2 = 0 → firstR a b c d e f g L (r + 1) n o t q = firstR a b c d e f g L r (n + 1) (movR a b c d e f g o t q (rd L (n : Int))).1 (movR a b c d e f g o t q (rd L (n : Int))).2.1 (movR a b c d e f g o t q (rd L (n : Int))).2.2.1 := fun c => by simp only [firstR]; exact if_pos c
    have f2 : ¬ (movR a b c d e f g o t q (rd L (n : Int))).2.2.2.2 = 0 → firstR a b c d e f g L (r + 1) n o t q = ((n : Int), (movR a b c d e f g o t q (rd L (n : Int))).2.2.2.2) := fun c => by simp only [firstR]; exact if_neg c
    have hm0 := mov_valid s a b c d e f g o t q (rd L (n : Int)) hv
    generalize movR a b c d e f g o t q (rd L (n : Int)) = z at *
    by_cases c1 : z.2.2.2.2 = 0
    · have hm := hm0 c1
      rw [r1 c1] at h1
      rw [f1 c1] at h2
      have hnext := ih z.1 z.2.1 z.2.2.1 (acc ++ [⟨z.1, z.2.1, z.2.2.1⟩]) (sum + z.2.2.2.1) hm.1 (by simp [ha]) (by omega) (by omega) h1 h2
      rw [wrap64_of (x := sum + z.2.2.2.1) (by omega) (by omega), wrap64_nat (by omega)]
      refine Evt.ite_pos c1 (Evt.ite (fun c2 => ?_) (fun _ => hnext))
      subst c2
      obtain ⟨more, m1, m2⟩ := run_more a b c d e f g L r (n + 1) z.1 z.2.1 z.2.2.1 (acc ++ [⟨z.1, z.2.1, z.2.2.1⟩]) (sum + z.2.2.2.1) (by rw [h1])
      rw [h1] at m1
      have m1 : x10 = acc ++ [⟨z.1, z.2.1, z.2.2.1⟩] ++ more := m1
      have hlen : x10.length = n + 1 + r := by rw [m1]; simp [ha, m2]; omega
      have hget : rd_T47 x10 (n : Int) = (⟨z.1, z.2.1, z.2.2.1⟩ : Us) := by
        show x10.getD n _ = _
        rw [m1, List.getD_eq_getElem?_getD, List.append_assoc, List.getElem?_append_right (by omega), ha]
        simp
      refine Evt.ite_neg (by omega) (Evt.ite_pos (by omega) (Evt.ite_neg ?_ hnext))
      rw [hget]
      simp
    · rw [r2 c1] at h1
      rw [f2 c1] at h2
      simp only [Prod.mk.injEq] at h1 h2
      obtain ⟨k1, k2, k3⟩ := h1
      obtain ⟨k4, k5⟩ := h2
      refine Evt.ite_neg c1 (Evt.ite_pos k3.symm (Evt.ite_pos k5.symm (Evt.ite_pos k4.symm (Evt.ite_pos ?_ (Evt.of_eq ?_)))))
      · rw [← k1]
        rfl
      · rw [← k2]
        rfl
end
theorem j0 (s : ByteArray) (a b c d e f g : Int) (o : Bool) (t q : Int) (L : List Int) (hw : ∀ y ∈ L, (Lit.int .i64 y).wf = true) (v : Bool) (hv : v = false) : Evt (fun k => gridhalllaw3_UnitRuns.j0 k L v s a b c d e f g o t q) true := by
  subst hv
  refine Evt.succ ?_
  simp only [gridhalllaw3_UnitRuns.j0]
  refine Evt.ite_neg (by simp) (Evt.bind (Run_ev s a b c d e f g o t q L) (Evt.bind (First_ev s a b c d e f g o t q L) (Evt.bind (StateError_ev s a b c d e f g o t q) ?_)))
  have err : ∀ x : Int, x ≠ 0 → runA s a b c d e f g o t q L = ([], 0, x) → firstA s a b c d e f g o t q L = (0, x) → Evt (fun k => gridhalllaw3_UnitRuns.j2 k L (runA s a b c d e f g o t q L).1 (runA s a b c d e f g o t q L).2.1 (runA s a b c d e f g o t q L).2.2 (firstA s a b c d e f g o t q L).1 (firstA s a b c d e f g o t q L).2 x s a b c d e f g o t q) true := by
    intro x hx h1 h2
    rw [h1, h2]
    refine Evt.succ ?_
    simp only [gridhalllaw3_UnitRuns.j2]
    exact Evt.ite_neg hx (Evt.ite_pos trivial (Evt.ite_pos trivial (Evt.ite_pos rfl (Evt.ite_pos trivial (Evt.of_eq rfl)))))
  by_cases h : stErr s a b c d e f g o t q = 0
  · refine Evt.ite_pos h (Evt.succ ?_)
    simp only [gridhalllaw3_UnitRuns.j1]
    by_cases h2 : L.length > 24
    · refine Evt.ite_pos (by simp; omega) (err 2 (by omega) ?_ ?_)
      · unfold runA
        rw [if_pos h, if_pos h2]
      · unfold firstA
        rw [if_pos h, if_pos h2]
    · refine Evt.ite_neg (by simp; omega) (Evt.succ ?_)
      simp only [gridhalllaw3_UnitRuns.j2]
      refine Evt.ite_pos h ?_
      have e1 : runA s a b c d e f g o t q L = runR a b c d e f g L L.length 0 o t q [] 0 := by
        unfold runA
        rw [if_pos h, if_neg h2]
      have e2 : firstA s a b c d e f g o t q L = firstR a b c d e f g L L.length 0 o t q := by
        unfold firstA
        rw [if_pos h, if_neg h2]
      rw [e1, e2]
      exact law_l0 s a b c d e f g L (by omega) hw _ _ _ _ _ 0 (by omega) o t q [] 0 h rfl (by omega) (by omega) rfl rfl
  · refine Evt.ite_neg h (Evt.succ ?_)
    simp only [gridhalllaw3_UnitRuns.j1]
    refine Evt.ite_neg (by simp) (err _ h ?_ ?_)
    · unfold runA
      rw [if_neg h]
    · unfold firstA
      rw [if_neg h]
theorem pure : Go.Proofs.Ytdhboohbifmbnaa.RUnitRuns.Pure := by
  intro s a b c d e f g o t q L _ _ _ _ _ _ _ _ _ _ _ hL
  refine Evt.ex ?_
  simp only [gridhalllaw3_UnitRuns.f, gridhalllaw3_wait.f, Option.bind_some]
  refine Evt.bind (Run_ev _ _ _ _ _ _ _ _ _ _ _ _) ?_
  have c1 : runA (⟨#[65]⟩ : ByteArray) 10 50 5 5 2 2 7 false 2 0 [20, 25] = ([⟨true, 1, 20⟩, ⟨true, 2, 25⟩], 7, 0) := by
    have h : stErr (⟨#[65]⟩ : ByteArray) 10 50 5 5 2 2 7 false 2 0 = 0 := by decide +kernel
    unfold runA
    rw [if_pos h]
    rfl
  rw [c1]
  exact Evt.ite_pos rfl (Evt.ite_pos rfl (Evt.ite_pos rfl (Evt.ite_pos (by decide) (j0 s a b c d e f g o t q L hL.2 _ rfl))))
theorem UnitRuns_holds : Rows.UnitRunsSaid := Go.Proofs.Ytdhboohbifmbnaa.RUnitRuns.said pure
#print axioms UnitRuns_holds
end Go.Proofs.Ytdhboohbifmbnaa.FUnitRuns
