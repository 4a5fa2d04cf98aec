import Derived.Test.YtefkdkppipdceaaEvs
import Derived.Test.YtefkdkppipdceaaHCommitServesy13
import Derived.Test.YtefkdkppipdceaaHCommitServesy17
import Derived.Test.YtefkdkppipdceaaHCommitServesy18
import Derived.Test.YtefkdkppipdceaaHCommitServesy19
namespace Go.Proofs.Ytefkdkppipdceaa.BCommitServes
open Go.RowKit Go.Proofs.YtefkdkppipdceaaW.PrintWords Go.Proofs.YtefkdkppipdceaaW.PrintMore Go.Proofs.Ytefkdkppipdceaa.Evs Go.Proofs.Ytefkdkppipdceaa.PCommitServes
set_option linter.unusedVariables false
set_option linter.unusedSectionVars false
set_option linter.unusedSimpArgs false
theorem bt_bd (s : ByteArray) (i : Int) : 0 ≤ bt s i ∧ bt s i ≤ 255 := by
  unfold bt
  split
  · rename_i h
    have:=(s[i.toNat]'h).toNat_lt
    omega
  · omega
def okc (c : Int) : Bool := decide ((65 ≤ c ∧ c ≤ 90) ∨ (48 ≤ c ∧ c ≤ 57))
theorem okc_t {c : Int} (h : (65 ≤ c ∧ c ≤ 90) ∨ (48 ≤ c ∧ c ≤ 57)) : okc c = true := decide_eq_true h
theorem okc_f {c : Int} (h : ¬ ((65 ≤ c ∧ c ≤ 90) ∨ (48 ≤ c ∧ c ≤ 57))) : okc c = false := decide_eq_false h
def allC (s : ByteArray) : Nat → Nat → Bool
 |0, _ => true
 |d + 1, n => okc (bt s n) && allC s d (n + 1)
def nameB (s : ByteArray) : Bool := decide (1 ≤ s.size ∧ s.size ≤ 8 ∧ ¬ (48 ≤ bt s 0 ∧ bt s 0 ≤ 57)) && allC s s.size 0
theorem unit_named_l0 (s : ByteArray) (hs : s.size ≤ 8) : ∀ n, n ≤ s.size → Evt (fun k => unit_named.l0 k s (s.size : Int) (n : Int)) (allC s (s.size - n) n) := by
  refine down ?_ ?_
  · refine Evt.succ ?_
    simp only [unit_named.l0, Nat.sub_self, allC]
    exact Evt.ite_neg (by omega) (Evt.pure _)
  · intro n hn ih
    refine Evt.succ ?_
    obtain ⟨d, hd⟩ : ∃ d, s.size - n = d + 1:=⟨s.size - n - 1, by omega⟩
    have hd' : s.size - (n + 1) = d:=by omega
    rw [hd'] at ih
    rw [hd]
    simp only [unit_named.l0, allC]
    refine Evt.ite_pos (by omega) (Evt.ite_pos (by omega) (Evt.ite_pos (by omega) ?_))
    rw [wrap64_nat (by omega)]
    have bad : ¬ ((65 ≤ bt s n ∧ bt s n ≤ 90) ∨ (48 ≤ bt s n ∧ bt s n ≤ 57)) → false = (okc (bt s n) && allC s d (n + 1)):=fun h => by rw [okc_f h]; rfl
    have fine : ((65 ≤ bt s n ∧ bt s n ≤ 90) ∨ (48 ≤ bt s n ∧ bt s n ≤ 57)) → allC s d (n + 1) = (okc (bt s n) && allC s d (n + 1)):=fun h => by rw [okc_t h, Bool.true_and]
    refine Evt.ite (fun h1 => Evt.ite (fun h2 => Evt.of_eq (bad (by omega))) (fun h2 => Evt.ite (fun h3 => Evt.of_eq (bad (by omega))) (fun h3 => Evt.cast ih (fine (by omega)))))
      (fun h1 => Evt.ite (fun h2 => Evt.ite (fun h3 => Evt.of_eq (bad (by omega))) (fun h3 => Evt.ite (fun h4 => Evt.of_eq (bad (by omega))) (fun h4 => Evt.cast ih (fine (by omega))))) (fun h2 => Evt.cast ih (fine (by omega))))
theorem unit_named_ev (s : ByteArray) : Evt (fun k => unit_named.f k s) (nameB s) := by
  simp only [unit_named.f]
  have j0t : ∀ b, b = true → nameB s = false → Evt (fun k => unit_named.j0 k s b) (nameB s):=by
    intro b hb hn
    subst hb
    refine Evt.succ ?_
    simp only [unit_named.j0]
    exact Evt.ite_pos (by simp) (Evt.of_eq hn.symm)
  by_cases h0 : s.size = 0
  · refine Evt.ite_pos ((toList_nil s).2 h0) (j0t _ rfl ?_)
    unfold nameB
    rw [decide_eq_false (by omega)]
    rfl
  · refine Evt.ite_neg (fun h => h0 ((toList_nil s).1 h)) ?_
    by_cases h8 : s.size ≤ 8
    · refine Evt.ite_neg (by omega) (Evt.ite_pos (by omega) ?_)
      have go : ∀ b, b = decide (48 ≤ bt s 0 ∧ bt s 0 ≤ 57) → Evt (fun k => unit_named.j0 k s b) (nameB s):=by
        intro b hb
        by_cases hc : 48 ≤ bt s 0 ∧ bt s 0 ≤ 57
        · refine j0t b (by rw [hb]; exact decide_eq_true hc) ?_
          unfold nameB
          rw [decide_eq_false (by omega)]
          rfl
        · rw [decide_eq_false hc] at hb
          subst hb
          refine Evt.succ ?_
          simp only [unit_named.j0]
          refine Evt.ite_neg (by simp) ?_
          have:=unit_named_l0 s h8 0 (by omega)
          refine Evt.cast this ?_
          unfold nameB
          rw [decide_eq_true (by omega)]
          rfl
      refine Evt.ite (fun h => go _ ?_) (fun h => go _ ?_)
      · exact decide_eq_decide.2 (by omega)
      · exact (decide_eq_false (by omega)).symm
    · refine Evt.ite_pos (by omega) (j0t _ rfl ?_)
      unfold nameB
      rw [decide_eq_false (by omega)]
      rfl
theorem offer_named_l0 (s : ByteArray) (hs : s.size ≤ 8) : ∀ n, n ≤ s.size → Evt (fun k => offer_named.l0 k s (s.size : Int) (n : Int)) (allC s (s.size - n) n) := by
  refine down ?_ ?_
  · refine Evt.succ ?_
    simp only [offer_named.l0, Nat.sub_self, allC]
    exact Evt.ite_neg (by omega) (Evt.pure _)
  · intro n hn ih
    refine Evt.succ ?_
    obtain ⟨d, hd⟩ : ∃ d, s.size - n = d + 1:=⟨s.size - n - 1, by omega⟩
    have hd' : s.size - (n + 1) = d:=by omega
    rw [hd'] at ih
    rw [hd]
    simp only [offer_named.l0, allC]
    refine Evt.ite_pos (by omega) (Evt.ite_pos (by omega) (Evt.ite_pos (by omega) ?_))
    rw [wrap64_nat (by omega)]
    have bad : ¬ ((65 ≤ bt s n ∧ bt s n ≤ 90) ∨ (48 ≤ bt s n ∧ bt s n ≤ 57)) → false = (okc (bt s n) && allC s d (n + 1)):=fun h => by rw [okc_f h]; rfl
    have fine : ((65 ≤ bt s n ∧ bt s n ≤ 90) ∨ (48 ≤ bt s n ∧ bt s n ≤ 57)) → allC s d (n + 1) = (okc (bt s n) && allC s d (n + 1)):=fun h => by rw [okc_t h, Bool.true_and]
    refine Evt.ite (fun h1 => Evt.ite (fun h2 => Evt.of_eq (bad (by omega))) (fun h2 => Evt.ite (fun h3 => Evt.of_eq (bad (by omega))) (fun h3 => Evt.cast ih (fine (by omega)))))
      (fun h1 => Evt.ite (fun h2 => Evt.ite (fun h3 => Evt.of_eq (bad (by omega))) (fun h3 => Evt.ite (fun h4 => Evt.of_eq (bad (by omega))) (fun h4 => Evt.cast ih (fine (by omega))))) (fun h2 => Evt.cast ih (fine (by omega))))
theorem offer_named_ev (s : ByteArray) : Evt (fun k => offer_named.f k s) (nameB s) := by
  simp only [offer_named.f]
  have j0t : ∀ b, b = true → nameB s = false → Evt (fun k => offer_named.j0 k s b) (nameB s):=by
    intro b hb hn
    subst hb
    refine Evt.succ ?_
    simp only [offer_named.j0]
    exact Evt.ite_pos (by simp) (Evt.of_eq hn.symm)
  by_cases h0 : s.size = 0
  · refine Evt.ite_pos ((toList_nil s).2 h0) (j0t _ rfl ?_)
    unfold nameB
    rw [decide_eq_false (by omega)]
    rfl
  · refine Evt.ite_neg (fun h => h0 ((toList_nil s).1 h)) ?_
    by_cases h8 : s.size ≤ 8
    · refine Evt.ite_neg (by omega) (Evt.ite_pos (by omega) ?_)
      have go : ∀ b, b = decide (48 ≤ bt s 0 ∧ bt s 0 ≤ 57) → Evt (fun k => offer_named.j0 k s b) (nameB s):=by
        intro b hb
        by_cases hc : 48 ≤ bt s 0 ∧ bt s 0 ≤ 57
        · refine j0t b (by rw [hb]; exact decide_eq_true hc) ?_
          unfold nameB
          rw [decide_eq_false (by omega)]
          rfl
        · rw [decide_eq_false hc] at hb
          subst hb
          refine Evt.succ ?_
          simp only [offer_named.j0]
          refine Evt.ite_neg (by simp) ?_
          have:=offer_named_l0 s h8 0 (by omega)
          refine Evt.cast this ?_
          unfold nameB
          rw [decide_eq_true (by omega)]
          rfl
      refine Evt.ite (fun h => go _ ?_) (fun h => go _ ?_)
      · exact decide_eq_decide.2 (by omega)
      · exact (decide_eq_false (by omega)).symm
    · refine Evt.ite_pos (by omega) (j0t _ rfl ?_)
      unfold nameB
      rw [decide_eq_false (by omega)]
      rfl
theorem in_eq (a b c : Int) : gridhallref3_In.f a b c = some (decide (b ≤ a ∧ a ≤ c)) := by
  unfold gridhallref3_In.f
  by_cases h : a ≥ b
  · rw [if_pos h]
    congr 1
    exact decide_eq_decide.2 (by omega)
  · rw [if_neg h, decide_eq_false (by omega)]
theorem ref_Named_l0 (s : ByteArray) (hs : s.size ≤ 8) : ∀ n, n ≤ s.size → Evt (fun k => gridhallref3_Named.l0 k s (s.size : Int) (n : Int)) (allC s (s.size - n) n) := by
  refine down ?_ ?_
  · refine Evt.succ ?_
    simp only [gridhallref3_Named.l0, Nat.sub_self, allC]
    exact Evt.ite_neg (by omega) (Evt.pure _)
  · intro n hn ih
    refine Evt.succ ?_
    obtain ⟨d, hd⟩ : ∃ d, s.size - n = d + 1:=⟨s.size - n - 1, by omega⟩
    have hd' : s.size - (n + 1) = d:=by omega
    rw [hd'] at ih
    rw [hd]
    simp only [gridhallref3_Named.l0, allC]
    refine Evt.ite_pos (by omega) (Evt.ite_pos (by omega) (Evt.ite_pos (by omega) ?_))
    have hb:=bt_bd s n
    rw [wrap64_nat (by omega), wrap64_of (x:=bt s n) (by omega) (by omega)]
    simp only [in_eq, Option.bind_some]
    have bad : ¬ ((65 ≤ bt s n ∧ bt s n ≤ 90) ∨ (48 ≤ bt s n ∧ bt s n ≤ 57)) → false = (okc (bt s n) && allC s d (n + 1)):=fun h => by rw [okc_f h]; rfl
    have fine : ((65 ≤ bt s n ∧ bt s n ≤ 90) ∨ (48 ≤ bt s n ∧ bt s n ≤ 57)) → allC s d (n + 1) = (okc (bt s n) && allC s d (n + 1)):=fun h => by rw [okc_t h, Bool.true_and]
    refine Evt.ite (fun h1 => Evt.cast ih (fine (by simp at h1; omega))) (fun h1 => Evt.ite (fun h2 => Evt.cast ih (fine (by simp at h2; omega))) (fun h2 => Evt.of_eq (bad (by simp at h1 h2; omega))))
theorem ref_Named_ev (s : ByteArray) : Evt (fun k => gridhallref3_Named.f k s) (nameB s) := by
  simp only [gridhallref3_Named.f]
  have j0t : ∀ b, b = true → nameB s = false → Evt (fun k => gridhallref3_Named.j0 k s b) (nameB s):=by
    intro b hb hn
    subst hb
    refine Evt.succ ?_
    simp only [gridhallref3_Named.j0]
    exact Evt.ite_pos (by simp) (Evt.of_eq hn.symm)
  by_cases h0 : s.size = 0
  · refine Evt.ite_pos (by omega) (j0t _ rfl ?_)
    unfold nameB
    rw [decide_eq_false (by omega)]
    rfl
  · refine Evt.ite_neg (by omega) ?_
    by_cases h8 : s.size ≤ 8
    · refine Evt.ite_neg (by omega) (Evt.ite_pos (by omega) ?_)
      have hb:=bt_bd s 0
      rw [wrap64_of (x:=bt s 0) (by omega) (by omega)]
      simp only [in_eq, Option.bind_some]
      by_cases hc : 48 ≤ bt s 0 ∧ bt s 0 ≤ 57
      · refine j0t _ (decide_eq_true hc) ?_
        unfold nameB
        rw [decide_eq_false (by omega)]
        rfl
      · rw [decide_eq_false hc]
        refine Evt.succ ?_
        simp only [gridhallref3_Named.j0]
        refine Evt.ite_neg (by simp) ?_
        refine Evt.cast (ref_Named_l0 s h8 0 (by omega)) ?_
        unfold nameB
        rw [decide_eq_true (by omega)]
        rfl
    · refine Evt.ite_pos (by omega) (j0t _ rfl ?_)
      unfold nameB
      rw [decide_eq_false (by omega)]
      rfl
def okR (a b c d e f g : Int) : Prop := (0 ≤ a ∧ a ≤ b) ∧ b ≤ 100000 ∧ (1 ≤ c ∧ c ≤ 100000) ∧ (1 ≤ d ∧ d ≤ 100000) ∧ (1 ≤ e ∧ e ≤ 24) ∧ (1 ≤ f ∧ f ≤ 24) ∧ (0 ≤ g ∧ g ≤ 1000000)
instance (a b c d e f g : Int) : Decidable (okR a b c d e f g) := by unfold okR; exact inferInstance
def ruleErr (s : ByteArray) (a b c d e f g : Int) : Int := if nameB s = true then (if okR a b c d e f g then 0 else 4) else 6
def okS (a b : Int) (o : Bool) (t q : Int) : Prop := (1 ≤ t ∧ t ≤ 200000) ∧ (o = true → a ≤ q ∧ q ≤ b)
instance (a b : Int) (o : Bool) (t q : Int) : Decidable (okS a b o t q) := by unfold okS; exact inferInstance
def stErr (s : ByteArray) (a b c d e f g : Int) (o : Bool) (t q : Int) : Int := if ruleErr s a b c d e f g = 0 then (if okS a b o t q then (if o = true ∨ q = 0 then 0 else 3) else 4) else ruleErr s a b c d e f g
section
variable (s : ByteArray) (a b c d e f g : Int)
theorem uCheck_ev : Evt (fun k => unit_Check.f k s a b c d e f g) (ruleErr s a b c d e f g) := by
  simp only [unit_Check.f]
  refine Evt.bind (unit_named_ev s) ?_
  by_cases h : nameB s = true
  · have no : ¬ okR a b c d e f g → 4 = ruleErr s a b c d e f g:=fun hh => by unfold ruleErr; rw [if_pos h, if_neg hh]
    have ok : okR a b c d e f g → 0 = ruleErr s a b c d e f g:=fun hh => by unfold ruleErr; rw [if_pos h, if_pos hh]
    refine Evt.ite_pos h ?_
    refine Evt.ite (fun x => Evt.of_eq (no (by unfold okR; omega))) (fun x1 => ?_)
    refine Evt.ite (fun x => Evt.of_eq (no (by unfold okR; omega))) (fun x2 => ?_)
    refine Evt.ite (fun x => Evt.of_eq (no (by unfold okR; omega))) (fun x3 => ?_)
    refine Evt.ite (fun x => Evt.of_eq (no (by unfold okR; omega))) (fun x4 => ?_)
    refine Evt.ite (fun x => Evt.of_eq (no (by unfold okR; omega))) (fun x5 => ?_)
    refine Evt.ite (fun x => Evt.of_eq (no (by unfold okR; omega))) (fun x6 => ?_)
    refine Evt.ite (fun x => Evt.of_eq (no (by unfold okR; omega))) (fun x7 => ?_)
    refine Evt.ite (fun x => Evt.of_eq (no (by unfold okR; omega))) (fun x8 => ?_)
    refine Evt.ite (fun x => Evt.of_eq (no (by unfold okR; omega))) (fun x9 => ?_)
    refine Evt.ite (fun x => Evt.of_eq (no (by unfold okR; omega))) (fun x10 => ?_)
    refine Evt.ite (fun x => Evt.of_eq (no (by unfold okR; omega))) (fun x11 => ?_)
    refine Evt.ite (fun x => Evt.of_eq (no (by unfold okR; omega))) (fun x12 => ?_)
    refine Evt.ite (fun x => Evt.of_eq (no (by unfold okR; omega))) (fun x13 => ?_)
    exact Evt.of_eq (ok (by unfold okR; omega))
  · exact Evt.ite_neg h (Evt.of_eq (by unfold ruleErr; rw [if_neg h]))
theorem RuleError_ev : Evt (fun k => gridhallref3_RuleError.f k s a b c d e f g) (ruleErr s a b c d e f g) := by
  simp only [gridhallref3_RuleError.f, in_eq, Option.bind_some, decide_eq_true_eq]
  refine Evt.bind (ref_Named_ev s) ?_
  by_cases h : nameB s = true
  · have no : ¬ okR a b c d e f g → 4 = ruleErr s a b c d e f g:=fun hh => by unfold ruleErr; rw [if_pos h, if_neg hh]
    have ok : okR a b c d e f g → 0 = ruleErr s a b c d e f g:=fun hh => by unfold ruleErr; rw [if_pos h, if_pos hh]
    refine Evt.ite_pos h ?_
    refine Evt.ite (fun x1 => ?_) (fun x => Evt.of_eq (no (by unfold okR; omega)))
    refine Evt.ite (fun x2 => ?_) (fun x => Evt.of_eq (no (by unfold okR; omega)))
    refine Evt.ite (fun x3 => ?_) (fun x => Evt.of_eq (no (by unfold okR; omega)))
    refine Evt.ite (fun x4 => ?_) (fun x => Evt.of_eq (no (by unfold okR; omega)))
    refine Evt.ite (fun x5 => ?_) (fun x => Evt.of_eq (no (by unfold okR; omega)))
    refine Evt.ite (fun x6 => ?_) (fun x => Evt.of_eq (no (by unfold okR; omega)))
    refine Evt.ite (fun x7 => ?_) (fun x => Evt.of_eq (no (by unfold okR; omega)))
    exact Evt.of_eq (ok (by unfold okR; omega))
  · exact Evt.ite_neg h (Evt.of_eq (by unfold ruleErr; rw [if_neg h]))
theorem ruleErr_ok (h : ruleErr s a b c d e f g = 0) : nameB s = true ∧ okR a b c d e f g := by
  unfold ruleErr at h
  by_cases h1 : nameB s = true
  · rw [if_pos h1] at h
    by_cases h2 : okR a b c d e f g
    · exact ⟨h1, h2⟩
    · rw [if_neg h2] at h
      omega
  · rw [if_neg h1] at h
    omega
variable (o : Bool) (t q : Int)
theorem stErr_ok (h : stErr s a b c d e f g o t q = 0) : ruleErr s a b c d e f g = 0 ∧ okR a b c d e f g ∧ okS a b o t q ∧ (o = true ∨ q = 0) := by
  unfold stErr at h
  by_cases h1 : ruleErr s a b c d e f g = 0
  · rw [if_pos h1] at h
    by_cases h2 : okS a b o t q
    · rw [if_pos h2] at h
      by_cases h3 : o = true ∨ q = 0
      · exact ⟨h1, (ruleErr_ok _ _ _ _ _ _ _ _ h1).2, h2, h3⟩
      · rw [if_neg h3] at h
        omega
    · rw [if_neg h2] at h
      omega
  · rw [if_neg h1] at h
    exact absurd h h1
theorem CheckState_ev : Evt (fun k => unit_CheckState.f k s a b c d e f g o t q) (stErr s a b c d e f g o t q) := by
  simp only [unit_CheckState.f]
  refine Evt.bind (uCheck_ev s a b c d e f g) ?_
  by_cases h : ruleErr s a b c d e f g = 0
  · refine Evt.ite_pos h ?_
    have no : ¬ okS a b o t q → 4 = stErr s a b c d e f g o t q:=fun hh => by unfold stErr; rw [if_pos h, if_neg hh]
    have ok : okS a b o t q → (o = true ∨ q = 0) → 0 = stErr s a b c d e f g o t q:=fun hh h2 => by unfold stErr; rw [if_pos h, if_pos hh, if_pos h2]
    have fm : okS a b o t q → ¬ (o = true ∨ q = 0) → 3 = stErr s a b c d e f g o t q:=fun hh h2 => by unfold stErr; rw [if_pos h, if_pos hh, if_neg h2]
    have j1 : ∀ v, (v = false → okS a b o t q) → (v = true → ¬ okS a b o t q) → Evt (fun k => unit_CheckState.j1 k v o t q) (stErr s a b c d e f g o t q):=by
      intro v h1 h2
      refine Evt.succ ?_
      simp only [unit_CheckState.j1]
      cases v with
     |true => exact Evt.ite_pos (by simp) (Evt.of_eq (no (h2 rfl)))
     |false =>
        refine Evt.ite_neg (by simp) (Evt.ite (fun x => Evt.of_eq (ok (h1 rfl) (.inl x))) (fun x => Evt.ite (fun y => Evt.of_eq (ok (h1 rfl) (.inr y))) (fun y => Evt.of_eq (fm (h1 rfl) (fun z => z.elim x y)))))
    have j0 : ∀ v, v = decide (¬ (1 ≤ t ∧ t ≤ 200000)) → Evt (fun k => unit_CheckState.j0 k v s a b c d e f g o t q) (stErr s a b c d e f g o t q):=by
      intro v hv
      refine Evt.succ ?_
      simp only [unit_CheckState.j0]
      by_cases ht : 1 ≤ t ∧ t ≤ 200000
      · refine Evt.ite_neg (by simp [hv, ht]) (Evt.ite (fun x => Evt.ite (fun y => ?_) (fun y => ?_)) (fun x => ?_))
        · exact j1 _ (fun z => by simp at z) (fun _ z => by have:=z.2 x; omega)
        · exact j1 _ (fun z => ⟨ht, fun _ => by simp at z; omega⟩) (fun z w => by have:=w.2 x; simp at z; omega)
        · exact j1 _ (fun _ => ⟨ht, fun z => absurd z x⟩) (fun z => by simp at z)
      · exact Evt.ite_pos (by rw [hv]; exact decide_eq_true ht) (Evt.of_eq (no (fun z => ht z.1)))
    refine Evt.ite (fun x => j0 _ ?_) (fun x => j0 _ ?_)
    · exact (decide_eq_true (by omega)).symm
    · exact decide_eq_decide.2 (by omega)
  · exact Evt.ite_neg h (Evt.of_eq (by unfold stErr; rw [if_neg h]))
theorem StateError_ev : Evt (fun k => gridhallref3_StateError.f k s a b c d e f g o t q) (stErr s a b c d e f g o t q) := by
  simp only [gridhallref3_StateError.f, in_eq, Option.bind_some]
  refine Evt.bind (RuleError_ev s a b c d e f g) ?_
  by_cases h : ruleErr s a b c d e f g = 0
  · refine Evt.ite_pos h ?_
    have no : ¬ okS a b o t q → 4 = stErr s a b c d e f g o t q:=fun hh => by unfold stErr; rw [if_pos h, if_neg hh]
    have ok : okS a b o t q → (o = true ∨ q = 0) → 0 = stErr s a b c d e f g o t q:=fun hh h2 => by unfold stErr; rw [if_pos h, if_pos hh, if_pos h2]
    have fm : okS a b o t q → ¬ (o = true ∨ q = 0) → 3 = stErr s a b c d e f g o t q:=fun hh h2 => by unfold stErr; rw [if_pos h, if_pos hh, if_neg h2]
    have j1 : ∀ v, (v = false → okS a b o t q) → (v = true → ¬ okS a b o t q) → Evt (fun k => gridhallref3_StateError.j0 k v o t q) (stErr s a b c d e f g o t q):=by
      intro v h1 h2
      refine Evt.succ ?_
      simp only [gridhallref3_StateError.j0]
      cases v with
     |true => exact Evt.ite_pos (by simp) (Evt.of_eq (no (h2 rfl)))
     |false =>
        refine Evt.ite_neg (by simp) (Evt.ite (fun x => Evt.of_eq (ok (h1 rfl) (.inl x))) (fun x => Evt.ite (fun y => Evt.of_eq (ok (h1 rfl) (.inr y))) (fun y => Evt.of_eq (fm (h1 rfl) (fun z => z.elim x y)))))
    refine Evt.ite (fun x => Evt.ite (fun y => ?_) (fun y => ?_)) (fun x => ?_)
    · have x:=of_decide_eq_true x
      exact j1 _ (fun z => ⟨x, fun _ => by simpa using z⟩) (fun z w => by have:=w.2 y; simp [this] at z)
    · have x:=of_decide_eq_true x
      exact j1 _ (fun _ => ⟨x, fun z => absurd z y⟩) (fun z => by simp at z)
    · exact j1 _ (fun z => by simp at z) (fun _ z => x (decide_eq_true z.1))
  · exact Evt.ite_neg h (Evt.of_eq (by unfold stErr; rw [if_neg h]))
def movR (p : Int) : Bool × Int × Int × Int × Int :=
  if ¬ (p = -1) ∧ ¬ (a ≤ p ∧ p ≤ b) then (false, 0, 0, 0, 4) else
  if o = true then
    (if p = -1 then (if t < e then (false, 0, 0, 0, 12) else (false, 1, 0, 0, 0)) else
      (if -d ≤ p - q ∧ p - q ≤ c then (true, mn (t + 1) 200000, p, 0, 0) else (false, 0, 0, 0, 17)))
  else
    (if p = -1 then (false, mn (t + 1) 200000, 0, 0, 0) else (if t < f then (false, 0, 0, 0, 12) else (true, 1, p, g, 0)))
end
abbrev St := S132
abbrev zSt : St := z132
def pw (l : List St) (n : Nat) : Int := (l.getD n zSt).f0
def pr (l : List St) (n : Nat) : Int := (l.getD n zSt).f1
theorem rd0 (l : List St) (n : Nat) : (rd_T132 l (n : Int)).f0 = pw l n := Eq.trans rfl rfl
theorem rd1 (l : List St) (n : Nat) : (rd_T132 l (n : Int)).f1 = pr l n := Eq.trans rfl rfl
def tot (l : List St) : Nat → Int
 |0 => 0
 |n + 1 => tot l n + pw l n
def stepErr (l : List St) : Nat → Nat → Int
 |0, _ => 0
 |d + 1, n => if ¬ (1 ≤ pw l n ∧ pw l n ≤ 100000 ∧ -1000000 ≤ pr l n ∧ pr l n ≤ 1000000) then 4 else if 0 < n ∧ pr l n < pr l (n - 1) then 3 else if tot l (n + 1) > 100000 then 2 else stepErr l d (n + 1)
def offErr (s : ByteArray) (l : List St) : Int := if nameB s = true then (if l.length > 12 then 2 else stepErr l l.length 0) else 6
theorem pred_cast {n : Nat} (h : 0 < n) (hb : n ≤ 9223372036854775807) : wrap64 ((n : Int) - 1) = ((n - 1 : Nat) : Int) := by
  unfold wrap64
  omega
def Pre (l : List St) (n : Nat) : Prop := (∀ m, m < n → 1 ≤ pw l m ∧ pw l m ≤ 100000) ∧ tot l n ≤ 100000
theorem tot_mono {l : List St} {n : Nat} (h : ∀ m, m < n → 1 ≤ pw l m) : ∀ m, m ≤ n → 0 ≤ tot l m ∧ tot l m ≤ tot l n := by
  induction n with
 |zero =>
    intro m hm
    have : m = 0:=by omega
    subst this
    simp [tot]
 |succ n ih =>
    intro m hm
    have h1:=ih (fun m hm => h m (by omega))
    have h2:=h n (by omega)
    simp only [tot]
    by_cases e : m = n + 1
    · subst e
      have:=h1 n (by omega)
      simp only [tot]
      omega
    · have:=h1 m (by omega)
      omega
theorem Pre.bd {l : List St} {n : Nat} (h : Pre l n) : ∀ m, m ≤ n → 0 ≤ tot l m ∧ tot l m ≤ 100000 := by
  intro m hm
  have:=tot_mono (fun m hm => (h.1 m hm).1) m hm
  have:=h.2
  omega
theorem Pre.mono {l : List St} {n m : Nat} (h : Pre l n) (hm : m ≤ n) : Pre l m := ⟨fun j hj => h.1 j (by omega), (h.bd m hm).2⟩
structure Val (l : List St) : Prop where
  len : l.length ≤ 12
  rng : ∀ n, n < l.length → 1 ≤ pw l n ∧ pw l n ≤ 100000 ∧ -1000000 ≤ pr l n ∧ pr l n ≤ 1000000
  srt : ∀ n, 0 < n → n < l.length → pr l (n - 1) ≤ pr l n
  all : tot l l.length ≤ 100000
theorem stepErr_val (l : List St) : ∀ d n, n + d = l.length → Pre l n → stepErr l d n = 0 →
    (∀ m, n ≤ m → m < l.length → 1 ≤ pw l m ∧ pw l m ≤ 100000 ∧ -1000000 ≤ pr l m ∧ pr l m ≤ 1000000) ∧ (∀ m, n ≤ m → 0 < m → m < l.length → pr l (m - 1) ≤ pr l m) ∧ tot l l.length ≤ 100000:=by
  intro d
  induction d with
 |zero =>
    intro n hn hp _
    exact ⟨fun m h1 h2 => by omega, fun m h1 _ h2 => by omega, by rw [← hn]; exact hp.2⟩
 |succ d ih =>
    intro n hn hp h
    simp only [stepErr] at h
    by_cases c1 : ¬ (1 ≤ pw l n ∧ pw l n ≤ 100000 ∧ -1000000 ≤ pr l n ∧ pr l n ≤ 1000000)
    · rw [if_pos c1] at h
      omega
    · rw [if_neg c1] at h
      by_cases c2 : 0 < n ∧ pr l n < pr l (n - 1)
      · rw [if_pos c2] at h
        omega
      · rw [if_neg c2] at h
        by_cases c3 : tot l (n + 1) > 100000
        · rw [if_pos c3] at h
          omega
        · rw [if_neg c3] at h
          have hp' : Pre l (n + 1):=by
            refine ⟨fun m hm => ?_, by omega⟩
            by_cases e : m = n
            · subst e
              omega
            · exact hp.1 m (by omega)
          obtain ⟨h1, h2, h3⟩:=ih (n + 1) (by omega) hp' h
          refine ⟨fun m hm hl => ?_, fun m hm h0 hl => ?_, h3⟩
          · by_cases e : m = n
            · subst e
              omega
            · exact h1 m (by omega) hl
          · by_cases e : m = n
            · subst e
              omega
            · exact h2 m (by omega) h0 hl
theorem pre0 (l : List St) : Pre l 0 := ⟨fun m hm => by omega, by simp [tot]⟩
theorem offErr_val {s : ByteArray} {l : List St} (h : offErr s l = 0) : nameB s = true ∧ Val l := by
  unfold offErr at h
  by_cases c1 : nameB s = true
  · rw [if_pos c1] at h
    by_cases c2 : l.length > 12
    · rw [if_pos c2] at h
      omega
    · rw [if_neg c2] at h
      obtain ⟨h1, h2, h3⟩:=stepErr_val l l.length 0 (by omega) (pre0 l) h
      exact ⟨c1, by omega, fun n hn => h1 n (by omega) hn, fun n h0 hn => h2 n (by omega) h0 hn, h3⟩
  · rw [if_neg c1] at h
    omega
theorem Val.pre {l : List St} (h : Val l) : Pre l l.length := ⟨fun m hm => ⟨(h.rng m hm).1, (h.rng m hm).2.1⟩, h.all⟩
theorem Val.bd {l : List St} (h : Val l) (m : Nat) (hm : m ≤ l.length) : 0 ≤ tot l m ∧ tot l m ≤ 100000 := h.pre.bd m hm
theorem Check_l0 (s : ByteArray) (l : List St) (hl : l.length ≤ 12) : ∀ n, n ≤ l.length → Pre l n → Evt (fun k => offer_Check.l0 k (tot l n) l (l.length : Int) (n : Int) s l) (stepErr l (l.length - n) n) := by
  refine down ?_ ?_
  · intro _
    refine Evt.succ ?_
    simp only [offer_Check.l0, Nat.sub_self, stepErr]
    exact Evt.ite_neg (by omega) (Evt.pure _)
  · intro n hn ih hp
    obtain ⟨d, hd⟩ : ∃ d, l.length - n = d + 1:=⟨l.length - n - 1, by omega⟩
    have hd' : l.length - (n + 1) = d:=by omega
    rw [hd'] at ih
    rw [hd]
    have hb:=hp.bd n (Nat.le_refl _)
    have j2 : (1 ≤ pw l n ∧ pw l n ≤ 100000 ∧ -1000000 ≤ pr l n ∧ pr l n ≤ 1000000) → ∀ b, b = decide (0 < n ∧ pr l n < pr l (n - 1)) → Evt (fun k => offer_Check.j2 k (tot l n) l (l.length : Int) (n : Int) b s l (pw l n) (pr l n)) (stepErr l (d + 1) n):=by
      intro hc b hb2
      refine Evt.succ ?_
      simp only [offer_Check.j2, stepErr]
      rw [if_neg (by omega), wrap64_of (x:=tot l n + pw l n) (by omega) (by omega), wrap64_nat (by omega)]
      subst hb2
      refine Evt.ite (fun h => ?_) (fun h => ?_)
      · rw [if_pos (of_decide_eq_true h)]
        exact Evt.pure _
      · rw [if_neg (fun h2 => h (decide_eq_true h2))]
        refine Evt.ite (fun h2 => ?_) (fun h2 => ?_)
        · rw [if_pos (show tot l (n + 1) > 100000 from h2)]
          exact Evt.pure _
        · have h3 : ¬ tot l (n + 1) > 100000:=h2
          rw [if_neg h3]
          refine ih ⟨fun m hm => ?_, by omega⟩
          by_cases e : m = n
          · subst e
            omega
          · exact hp.1 m (by omega)
    have j1t : ¬ (1 ≤ pw l n ∧ pw l n ≤ 100000 ∧ -1000000 ≤ pr l n ∧ pr l n ≤ 1000000) → ∀ b, b = true → Evt (fun k => offer_Check.j1 k (tot l n) (n : Int) l (l.length : Int) (n : Int) b s l (pw l n) (pr l n)) (stepErr l (d + 1) n):=by
      intro hc b hb2
      subst hb2
      refine Evt.succ ?_
      simp only [offer_Check.j1, stepErr]
      rw [if_pos hc]
      exact Evt.ite_pos (by simp) (Evt.pure _)
    have j1f : (1 ≤ pw l n ∧ pw l n ≤ 100000 ∧ -1000000 ≤ pr l n ∧ pr l n ≤ 1000000) → ∀ b, b = false → Evt (fun k => offer_Check.j1 k (tot l n) (n : Int) l (l.length : Int) (n : Int) b s l (pw l n) (pr l n)) (stepErr l (d + 1) n):=by
      intro hc b hb2
      subst hb2
      refine Evt.succ ?_
      simp only [offer_Check.j1]
      refine Evt.ite_neg (by simp) (Evt.ite (fun h => ?_) (fun h => ?_))
      · rw [pred_cast (by omega) (by omega)]
        refine Evt.ite_pos (by omega) (Evt.ite_pos (by omega) ?_)
        simp only [rd1]
        refine j2 hc _ (decide_eq_decide.2 ?_)
        omega
      · exact j2 hc _ (decide_eq_false (by omega)).symm
    refine Evt.succ ?_
    simp only [offer_Check.l0]
    refine Evt.ite_pos (by omega) (Evt.ite_pos (by omega) (Evt.ite_pos (by omega) ?_))
    simp only [rd0, rd1]
    refine Evt.ite (fun h => j1t (by omega) _ rfl) (fun h1 => Evt.ite (fun h => j1t (by omega) _ rfl) (fun h2 => Evt.ite (fun h => j1t (by omega) _ rfl) (fun h3 => ?_)))
    by_cases h4 : pr l n > 1000000
    · exact j1t (by omega) _ (decide_eq_true h4)
    · exact j1f (by omega) _ (decide_eq_false h4)
theorem Check_ev (s : ByteArray) (l : List St) : Evt (fun k => offer_Check.f k s l) (offErr s l) := by
  simp only [offer_Check.f]
  refine Evt.bind (offer_named_ev s) ?_
  unfold offErr
  by_cases h : nameB s = true
  · rw [if_pos h]
    refine Evt.ite_pos h ?_
    by_cases h2 : l.length > 12
    · rw [if_pos h2]
      exact Evt.ite_pos (by omega) (Evt.pure _)
    · rw [if_neg h2]
      exact Evt.ite_neg (by omega) (Check_l0 s l (by omega) 0 (by omega) (pre0 l))
  · rw [if_neg h]
    exact Evt.ite_neg h (Evt.pure _)
theorem tot_take (l : List St) (k : Nat) : ∀ n, n ≤ k → tot (l.take k) n = tot l n := by
  intro n
  induction n with
 |zero => intro _; rfl
 |succ n ih =>
    intro h
    simp only [tot]
    rw [ih (by omega)]
    congr 1
    unfold pw
    rw [List.getD_eq_getElem?_getD, List.getD_eq_getElem?_getD, List.getElem?_take_of_lt (by omega)]
theorem Before_l0 (l : List St) (hp : Pre l l.length) (hl : l.length ≤ 1000000) : ∀ n, n ≤ l.length → Evt (fun k => gridhallref3_Before.l0 k (tot l n) l (l.length : Int) (n : Int)) (tot l l.length) := by
  refine down ?_ ?_
  · refine Evt.succ ?_
    simp only [gridhallref3_Before.l0]
    exact Evt.ite_neg (by omega) (Evt.pure _)
  · intro n hn ih
    refine Evt.succ ?_
    simp only [gridhallref3_Before.l0]
    refine Evt.ite_pos (by omega) (Evt.ite_pos (by omega) (Evt.ite_pos (by omega) ?_))
    simp only [rd0]
    have hb:=hp.bd n (by omega)
    have hb2:=hp.bd (n + 1) (by omega)
    simp only [tot] at hb2 ih
    rw [wrap64_of (x:=tot l n + pw l n) (by omega) (by omega), wrap64_nat (by omega)]
    exact ih
theorem Before_l0' (l : List St) (h : ∀ m, m < l.length → 0 ≤ pw l m ∧ pw l m ≤ 100000) (hl : l.length ≤ 1000000) : ∀ n, n ≤ l.length → 0 ≤ tot l n → tot l n ≤ 100000 * n → Evt (fun k => gridhallref3_Before.l0 k (tot l n) l (l.length : Int) (n : Int)) (tot l l.length) := by
  refine down ?_ ?_
  · intro _ _
    refine Evt.succ ?_
    simp only [gridhallref3_Before.l0]
    exact Evt.ite_neg (by omega) (Evt.pure _)
  · intro n hn ih h1 h2
    refine Evt.succ ?_
    simp only [gridhallref3_Before.l0]
    refine Evt.ite_pos (by omega) (Evt.ite_pos (by omega) (Evt.ite_pos (by omega) ?_))
    simp only [rd0]
    have hb:=h n hn
    simp only [tot] at ih
    rw [wrap64_of (x:=tot l n + pw l n) (by omega) (by omega), wrap64_nat (by omega)]
    exact ih (by omega) (by omega)
theorem Before_ev' (s : ByteArray) (l : List St) (n : Nat) (hn : n ≤ l.length) (h : ∀ m, m < n → 0 ≤ pw l m ∧ pw l m ≤ 100000) (hl : n ≤ 1000000) : Evt (fun k => gridhallref3_Before.f k s l (n : Int)) (tot l n) := by
  simp only [gridhallref3_Before.f]
  refine Evt.ite_pos (by omega) (Evt.ite_pos (by omega) ?_)
  refine Evt.bindo rfl ?_
  have e : ((n : Int)).toNat = n:=by omega
  rw [e]
  have hlen : (l.take n).length = n:=by rw [List.length_take]; omega
  have hh:=Before_l0' (l.take n) (fun m hm => by
    rw [hlen] at hm
    have:=h m hm
    unfold pw at this ⊢
    rw [List.getD_eq_getElem?_getD] at this ⊢
    rw [List.getElem?_take_of_lt hm]
    exact this) (by omega) 0 (by omega) (by simp [tot]) (by simp [tot])
  rw [hlen, tot_take _ _ _ (Nat.le_refl _)] at hh
  rw [hlen]
  exact hh
theorem Before_ev (s : ByteArray) (l : List St) (n : Nat) (hn : n ≤ l.length) (hp : Pre l n) (hl : n ≤ 1000000) : Evt (fun k => gridhallref3_Before.f k s l (n : Int)) (tot l n) :=
  Before_ev' s l n hn (fun m hm => by have:=hp.1 m hm; omega) hl
theorem OfferError_l0 (s : ByteArray) (l : List St) (hl : l.length ≤ 12) : ∀ n, n ≤ l.length → Pre l n → Evt (fun k => gridhallref3_OfferError.l0 k l (l.length : Int) (n : Int) s l) (stepErr l (l.length - n) n) := by
  refine down ?_ ?_
  · intro _
    refine Evt.succ ?_
    simp only [gridhallref3_OfferError.l0, Nat.sub_self, stepErr]
    exact Evt.ite_neg (by omega) (Evt.pure _)
  · intro n hn ih hp
    obtain ⟨d, hd⟩ : ∃ d, l.length - n = d + 1:=⟨l.length - n - 1, by omega⟩
    have hd' : l.length - (n + 1) = d:=by omega
    rw [hd'] at ih
    rw [hd]
    have hb:=hp.bd n (Nat.le_refl _)
    have j2 : (1 ≤ pw l n ∧ pw l n ≤ 100000 ∧ -1000000 ≤ pr l n ∧ pr l n ≤ 1000000) → ∀ b, b = decide (0 < n ∧ pr l n < pr l (n - 1)) → Evt (fun k => gridhallref3_OfferError.j2 k (n : Int) l (l.length : Int) (n : Int) b s l) (stepErr l (d + 1) n):=by
      intro hc b hb2
      refine Evt.succ ?_
      simp only [gridhallref3_OfferError.j2, stepErr]
      rw [if_neg (by omega), wrap64_nat (by omega)]
      subst hb2
      refine Evt.ite (fun h => ?_) (fun h => ?_)
      · rw [if_pos (of_decide_eq_true h)]
        exact Evt.pure _
      · rw [if_neg (fun h2 => h (decide_eq_true h2))]
        refine Evt.bind (Before_ev' s l (n + 1) (by omega) (fun m hm => ?_) (by omega)) ?_
        · by_cases e : m = n
          · subst e
            omega
          · have:=hp.1 m (by omega)
            omega
        · refine Evt.ite (fun h2 => ?_) (fun h2 => ?_)
          · rw [if_pos h2]
            exact Evt.pure _
          · rw [if_neg h2]
            refine ih ⟨fun m hm => ?_, by omega⟩
            by_cases e : m = n
            · subst e
              omega
            · exact hp.1 m (by omega)
    have j1t : ¬ (1 ≤ pw l n ∧ pw l n ≤ 100000 ∧ -1000000 ≤ pr l n ∧ pr l n ≤ 1000000) → ∀ b, b = true → Evt (fun k => gridhallref3_OfferError.j1 k (n : Int) l (l.length : Int) (n : Int) b s l (pw l n) (pr l n)) (stepErr l (d + 1) n):=by
      intro hc b hb2
      subst hb2
      refine Evt.succ ?_
      simp only [gridhallref3_OfferError.j1, stepErr]
      rw [if_pos hc]
      exact Evt.ite_pos (by simp) (Evt.pure _)
    have j1f : (1 ≤ pw l n ∧ pw l n ≤ 100000 ∧ -1000000 ≤ pr l n ∧ pr l n ≤ 1000000) → ∀ b, b = false → Evt (fun k => gridhallref3_OfferError.j1 k (n : Int) l (l.length : Int) (n : Int) b s l (pw l n) (pr l n)) (stepErr l (d + 1) n):=by
      intro hc b hb2
      subst hb2
      refine Evt.succ ?_
      simp only [gridhallref3_OfferError.j1]
      refine Evt.ite_neg (by simp) (Evt.ite (fun h => ?_) (fun h => ?_))
      · rw [pred_cast (by omega) (by omega)]
        refine Evt.ite_pos (by omega) (Evt.ite_pos (by omega) ?_)
        simp only [rd1]
        refine j2 hc _ (decide_eq_decide.2 ?_)
        omega
      · exact j2 hc _ (decide_eq_false (by omega)).symm
    refine Evt.succ ?_
    simp only [gridhallref3_OfferError.l0]
    refine Evt.ite_pos (by omega) (Evt.ite_pos (by omega) (Evt.ite_pos (by omega) ?_))
    simp only [rd0, rd1, in_eq, Option.bind_some]
    refine Evt.ite (fun h => ?_) (fun h => ?_)
    · have h:=of_decide_eq_true h
      by_cases h4 : -1000000 ≤ pr l n ∧ pr l n ≤ 1000000
      · exact j1f (by omega) _ (by rw [decide_eq_true h4]; rfl)
      · exact j1t (by omega) _ (by rw [decide_eq_false h4]; rfl)
    · have h : ¬ (1 ≤ pw l n ∧ pw l n ≤ 100000):=fun h2 => h (decide_eq_true h2)
      exact j1t (by omega) _ rfl
theorem OfferError_ev (s : ByteArray) (l : List St) : Evt (fun k => gridhallref3_OfferError.f k s l) (offErr s l) := by
  simp only [gridhallref3_OfferError.f]
  refine Evt.bind (ref_Named_ev s) ?_
  unfold offErr
  by_cases h : nameB s = true
  · rw [if_pos h]
    refine Evt.ite_pos h ?_
    by_cases h2 : l.length > 12
    · rw [if_pos h2]
      exact Evt.ite_pos (by omega) (Evt.pure _)
    · rw [if_neg h2]
      exact Evt.ite_neg (by omega) (OfferError_l0 s l (by omega) 0 (by omega) (pre0 l))
  · rw [if_neg h]
    exact Evt.ite_neg h (Evt.pure _)
theorem mul_bd {a b A B : Int} (h1 : 0 ≤ a) (h2 : a ≤ A) (h3 : -B ≤ b) (h4 : b ≤ B) : -(A * B) ≤ b * a ∧ b * a ≤ A * B := by
  have hB : 0 ≤ B:=by omega
  have e1 : a * B ≤ A * B:=Int.mul_le_mul_of_nonneg_right h2 hB
  have e2 : b * a ≤ B * a:=Int.mul_le_mul_of_nonneg_right h4 h1
  have e3 : (-B) * a ≤ b * a:=Int.mul_le_mul_of_nonneg_right h3 h1
  rw [Int.mul_comm B a] at e2
  rw [Int.neg_mul, Int.mul_comm B a] at e3
  omega
def part (l : List St) (p : Int) (n : Nat) : Int := mn (mx p (tot l n)) (tot l n + pw l n) - tot l n
def cst (l : List St) (p : Int) : Nat → Int
 |0 => 0
 |n + 1 => cst l p n + pr l n * part l p n
theorem part_bd {l : List St} (p : Int) {n : Nat} (h : 0 ≤ pw l n) : 0 ≤ part l p n ∧ part l p n ≤ pw l n := by
  unfold part mn mx
  split <;> split <;> omega
theorem cst_bd {l : List St} (h : Val l) (p : Int) : ∀ n, n ≤ l.length → -(100000000000 * (n : Int)) ≤ cst l p n ∧ cst l p n ≤ 100000000000 * (n : Int) := by
  intro n
  induction n with
 |zero => intro _; simp [cst]
 |succ n ih =>
    intro hn
    have h0:=ih (by omega)
    have hr:=h.rng n (by omega)
    have hp:=part_bd (l:=l) p (n:=n) (by omega)
    have:=mul_bd (A:=100000) (B:=1000000) hp.1 (by omega) (by omega) hr.2.2.2
    simp only [cst]
    omega
theorem Most_l0 (l : List St) (h : Val l) : ∀ n, n ≤ l.length → Evt (fun k => offer_Most.l0 k (tot l n) l (l.length : Int) (n : Int)) (tot l l.length) := by
  have hl:=h.len
  refine down ?_ ?_
  · refine Evt.succ ?_
    simp only [offer_Most.l0]
    exact Evt.ite_neg (by omega) (Evt.pure _)
  · intro n hn ih
    refine Evt.succ ?_
    simp only [offer_Most.l0]
    refine Evt.ite_pos (by omega) (Evt.ite_pos (by omega) (Evt.ite_pos (by omega) ?_))
    simp only [rd0]
    have hb2:=h.bd (n + 1) (by omega)
    simp only [tot] at hb2 ih
    rw [wrap64_of (x:=tot l n + pw l n) (by omega) (by omega), wrap64_nat (by omega)]
    exact ih
theorem Most_ev (s : ByteArray) (l : List St) (h : Val l) : Evt (fun k => offer_Most.f k s l) (tot l l.length) := by
  simp only [offer_Most.f]
  exact Most_l0 l h 0 (by omega)
theorem Cost_l0 (l : List St) (h : Val l) (p : Int) (hp0 : 0 ≤ p) (hp : p ≤ 100000) : ∀ n, n ≤ l.length → Evt (fun k => offer_Cost.l0 k (mx (p - tot l n) 0) (cst l p n) l (l.length : Int) (n : Int)) (cst l p l.length, 0) := by
  have hl:=h.len
  refine down ?_ ?_
  · refine Evt.succ ?_
    simp only [offer_Cost.l0]
    exact Evt.ite_neg (by omega) (Evt.pure _)
  · intro n hn ih
    refine Evt.succ ?_
    simp only [offer_Cost.l0]
    refine Evt.ite_pos (by omega) (Evt.ite_pos (by omega) (Evt.ite_pos (by omega) ?_))
    simp only [rd0, rd1]
    have hr:=h.rng n hn
    have hb:=h.bd n (by omega)
    have hb2:=h.bd (n + 1) (by omega)
    simp only [tot] at hb2 ih
    have hpart:=part_bd (l:=l) p (n:=n) (by omega)
    have e1 : mn (mx (p - tot l n) 0) (pw l n) = part l p n:=by
      unfold part mn mx
      repeat' split
      all_goals omega
    have e2 : mx (p - tot l n) 0 - part l p n = mx (p - (tot l n + pw l n)) 0:=by
      unfold part mn mx
      repeat' split
      all_goals omega
    have e3 : 0 ≤ mx (p - (tot l n + pw l n)) 0 ∧ mx (p - (tot l n + pw l n)) 0 ≤ 100000:=by
      unfold mx
      split <;> omega
    have hc:=cst_bd h p n (by omega)
    have hm:=mul_bd (A:=100000) (B:=1000000) hpart.1 (by omega) (by omega) hr.2.2.2
    rw [e1, e2, wrap64_of (x:=mx (p - (tot l n + pw l n)) 0) (by omega) (by omega), Int.mul_comm (part l p n) (pr l n), wrap64_of (x:=pr l n * part l p n) (by omega) (by omega), wrap64_of (x:=cst l p n + pr l n * part l p n) (by omega) (by omega), wrap64_nat (by omega)]
    exact ih
def costR (s : ByteArray) (l : List St) (p : Int) : Int × Int := if offErr s l = 0 then (if 0 ≤ p ∧ p ≤ tot l l.length then (cst l p l.length, 0) else (0, 4)) else (0, offErr s l)
theorem Cost_ev (s : ByteArray) (l : List St) (p : Int) : Evt (fun k => offer_Cost.f k s l p) (costR s l p) := by
  simp only [offer_Cost.f]
  refine Evt.bind (Check_ev s l) ?_
  unfold costR
  by_cases h : offErr s l = 0
  · rw [if_pos h]
    refine Evt.ite_pos h ?_
    have hv:=(offErr_val h).2
    have hb:=hv.bd l.length (Nat.le_refl _)
    by_cases h1 : p < 0
    · rw [if_neg (by omega)]
      refine Evt.ite_pos h1 (Evt.succ ?_)
      simp only [offer_Cost.j0]
      exact Evt.ite_pos (by simp) (Evt.pure _)
    · refine Evt.ite_neg h1 (Evt.bind (Most_ev s l hv) (Evt.succ ?_))
      simp only [offer_Cost.j0]
      by_cases h2 : p > tot l l.length
      · rw [if_neg (by omega)]
        exact Evt.ite_pos (decide_eq_true h2) (Evt.pure _)
      · rw [if_pos (by omega)]
        refine Evt.ite_neg (by simpa using h2) ?_
        have:=Cost_l0 l hv p (by omega) (by omega) 0 (by omega)
        simp only [tot, cst] at this
        rw [mx_ge (by omega), Int.sub_zero] at this
        exact this
  · rw [if_neg h]
    exact Evt.ite_neg h (Evt.pure _)
theorem All_ev (s : ByteArray) (l : List St) (h : Val l) : Evt (fun k => gridhallref3_All.f k s l) (tot l l.length) := by
  have hl:=h.len
  simp only [gridhallref3_All.f]
  refine Evt.bind (Before_ev s l l.length (Nat.le_refl _) h.pre (by omega)) ?_
  exact Evt.pure _
def untF (l : List St) (p : Int) : Nat → Nat → Int
 |0, _ => 2000000
 |d + 1, n => if p < tot l (n + 1) then pr l n else untF l p d (n + 1)
theorem refCost_l0 (s : ByteArray) (l : List St) (h : Val l) (p : Int) : ∀ n, n ≤ l.length → Evt (fun k => gridhallref3_Cost.l0 k p (cst l p n) l (l.length : Int) (n : Int) s l) (cst l p l.length) := by
  have hl:=h.len
  refine down ?_ ?_
  · refine Evt.succ ?_
    simp only [gridhallref3_Cost.l0]
    exact Evt.ite_neg (by omega) (Evt.pure _)
  · intro n hn ih
    refine Evt.succ ?_
    simp only [gridhallref3_Cost.l0]
    refine Evt.ite_pos (by omega) (Evt.ite_pos (by omega) (Evt.ite_pos (by omega) ?_))
    simp only [rd0, rd1]
    refine Evt.bind (Before_ev s l n (by omega) (h.pre.mono (by omega)) (by omega)) ?_
    have hb:=h.bd n (by omega)
    have hr:=h.rng n hn
    have hpart:=part_bd (l:=l) p (n:=n) (by omega)
    have hc:=cst_bd h p n (by omega)
    have hm:=mul_bd (A:=100000) (B:=1000000) hpart.1 (by omega) (by omega) hr.2.2.2
    have e : mn (mx p (tot l n)) (tot l n + pw l n) - tot l n = part l p n:=rfl
    rw [wrap64_of (x:=tot l n + pw l n) (by omega) (by omega), e, wrap64_of (x:=part l p n) (by omega) (by omega), wrap64_of (x:=pr l n * part l p n) (by omega) (by omega), wrap64_of (x:=cst l p n + pr l n * part l p n) (by omega) (by omega), wrap64_nat (by omega)]
    exact ih
theorem refCost_ev (s : ByteArray) (l : List St) (h : Val l) (p : Int) : Evt (fun k => gridhallref3_Cost.f k s l p) (cst l p l.length) := by
  simp only [gridhallref3_Cost.f]
  exact refCost_l0 s l h p 0 (by omega)
theorem Unit_l0 (s : ByteArray) (l : List St) (h : Val l) (p : Int) : ∀ n, n ≤ l.length → Evt (fun k => gridhallref3_Unit.l0 k p l (l.length : Int) (n : Int) s l) (untF l p (l.length - n) n) := by
  have hl:=h.len
  refine down ?_ ?_
  · refine Evt.succ ?_
    simp only [gridhallref3_Unit.l0, Nat.sub_self, untF]
    exact Evt.ite_neg (by omega) (Evt.pure _)
  · intro n hn ih
    obtain ⟨d, hd⟩ : ∃ d, l.length - n = d + 1:=⟨l.length - n - 1, by omega⟩
    rw [show l.length - (n + 1) = d by omega] at ih
    rw [hd]
    refine Evt.succ ?_
    simp only [gridhallref3_Unit.l0]
    refine Evt.ite_pos (by omega) (Evt.ite_pos (by omega) (Evt.ite_pos (by omega) ?_))
    simp only [rd0, rd1]
    refine Evt.bind (Before_ev s l n (by omega) (h.pre.mono (by omega)) (by omega)) ?_
    have hb:=h.bd n (by omega)
    have hr:=h.rng n hn
    rw [wrap64_of (x:=tot l n + pw l n) (by omega) (by omega), wrap64_nat (by omega)]
    refine Evt.ite (fun c => ?_) (fun c => ?_)
    · exact Evt.of_eq (by simp only [untF]; exact (if_pos c).symm)
    · exact Evt.cast ih (by simp only [untF]; exact (if_neg c).symm)
theorem Unit_ev (s : ByteArray) (l : List St) (h : Val l) (p : Int) : Evt (fun k => gridhallref3_Unit.f k s l p) (untF l p l.length 0) := by
  simp only [gridhallref3_Unit.f]
  exact Unit_l0 s l h p 0 (by omega)
end Go.Proofs.Ytefkdkppipdceaa.BCommitServes
namespace Go.Proofs.Ytefkdkppipdceaa.CCommitServes
open Go.RowKit Go.Proofs.YtefkdkppipdceaaW.PrintWords Go.Proofs.YtefkdkppipdceaaW.PrintMore Go.Proofs.Ytefkdkppipdceaa.Evs Go.Proofs.Ytefkdkppipdceaa.PCommitServes Go.Proofs.Ytefkdkppipdceaa.BCommitServes
set_option linter.unusedVariables false
set_option linter.unusedSectionVars false
set_option linter.unusedSimpArgs false
abbrev Cm := S61
abbrev zCm : Cm := z61
def ga (l : List Cm) (n : Nat) : Cm := l.getD n zCm
theorem rdC (l : List Cm) (n : Nat) : rd_T61 l (n : Int) = ga l n := Eq.trans rfl rfl
def stX (x : Cm) : Int := stErr x.f0.f0 x.f0.f1 x.f0.f2 x.f0.f3 x.f0.f4 x.f0.f5 x.f0.f6 x.f0.f7 x.f2.f0 x.f2.f1 x.f2.f2
def comErr (x : Cm) : Int := if stX x = 0 then (if offErr x.f1.f0 x.f1.f1 = 0 then (if tot x.f1.f1 x.f1.f1.length = x.f0.f2 ∧ x.f1.f0.toList = x.f0.f0.toList then (if x.f0.f3 < x.f0.f2 ∨ x.f0.f4 < x.f0.f2 then 1 else 0) else 3) else offErr x.f1.f0 x.f1.f1) else stX x
theorem dCheck_ev (x : Cm) : Evt (fun k => dual_Check.f k x.f0.f0 x.f0.f1 x.f0.f2 x.f0.f3 x.f0.f4 x.f0.f5 x.f0.f6 x.f0.f7 x.f1.f0 x.f1.f1 x.f2.f0 x.f2.f1 x.f2.f2) (comErr x) := by
  simp only [dual_Check.f]
  refine Evt.bind (CheckState_ev _ _ _ _ _ _ _ _ _ _ _) ?_
  unfold comErr stX
  by_cases h : stErr x.f0.f0 x.f0.f1 x.f0.f2 x.f0.f3 x.f0.f4 x.f0.f5 x.f0.f6 x.f0.f7 x.f2.f0 x.f2.f1 x.f2.f2 = 0
  · rw [if_pos h]
    refine Evt.ite_pos h (Evt.bind (Check_ev _ _) ?_)
    by_cases h2 : offErr x.f1.f0 x.f1.f1 = 0
    · rw [if_pos h2]
      obtain ⟨_, hv⟩:=offErr_val h2
      refine Evt.ite_pos h2 (Evt.bind (Most_ev _ _ hv) ?_)
      by_cases h3 : tot x.f1.f1 x.f1.f1.length = x.f0.f2
      · refine Evt.ite_pos h3 (Evt.succ ?_)
        simp only [dual_Check.j0]
        by_cases h4 : x.f1.f0.toList = x.f0.f0.toList
        · refine Evt.cast ?_ (if_pos ⟨h3, h4⟩).symm
          refine Evt.ite_neg (by simp [h4]) (Evt.ite (fun c => Evt.of_eq (if_pos (Or.inl c)).symm) (fun c => Evt.ite (fun c2 => Evt.of_eq (if_pos (Or.inr c2)).symm) (fun c2 => Evt.of_eq (if_neg (fun z => z.elim c c2)).symm)))
        · refine Evt.cast ?_ (if_neg (fun z => h4 z.2)).symm
          exact Evt.ite_pos (by simp [h4]) (Evt.pure _)
      · refine Evt.cast ?_ (if_neg (fun z => h3 z.1)).symm
        refine Evt.ite_neg h3 (Evt.succ ?_)
        simp only [dual_Check.j0]
        first
         |exact Evt.ite_pos (by simp) (Evt.pure _)
         |exact Evt.pure _
    · rw [if_neg h2]
      exact Evt.ite_neg h2 (Evt.pure _)
  · rw [if_neg h]
    exact Evt.ite_neg h (Evt.pure _)
theorem CommitError_ev (x : Cm) : Evt (fun k => gridhallref3_CommitError.f k x.f0.f0 x.f0.f1 x.f0.f2 x.f0.f3 x.f0.f4 x.f0.f5 x.f0.f6 x.f0.f7 x.f1.f0 x.f1.f1 x.f2.f0 x.f2.f1 x.f2.f2) (comErr x) := by
  simp only [gridhallref3_CommitError.f]
  refine Evt.bind (StateError_ev _ _ _ _ _ _ _ _ _ _ _) ?_
  unfold comErr stX
  by_cases h : stErr x.f0.f0 x.f0.f1 x.f0.f2 x.f0.f3 x.f0.f4 x.f0.f5 x.f0.f6 x.f0.f7 x.f2.f0 x.f2.f1 x.f2.f2 = 0
  · rw [if_pos h]
    refine Evt.ite_pos h (Evt.bind (OfferError_ev _ _) ?_)
    by_cases h2 : offErr x.f1.f0 x.f1.f1 = 0
    · rw [if_pos h2]
      obtain ⟨_, hv⟩:=offErr_val h2
      refine Evt.ite_pos h2 (Evt.bind (All_ev _ _ hv) ?_)
      by_cases h3 : tot x.f1.f1 x.f1.f1.length = x.f0.f2
      · refine Evt.ite_pos h3 (Evt.succ ?_)
        simp only [gridhallref3_CommitError.j0]
        by_cases h4 : x.f1.f0.toList = x.f0.f0.toList
        · refine Evt.cast ?_ (if_pos ⟨h3, h4⟩).symm
          have e : mn x.f0.f3 x.f0.f4 < x.f0.f2 ↔ (x.f0.f3 < x.f0.f2 ∨ x.f0.f4 < x.f0.f2):=by unfold mn; split <;> omega
          refine Evt.ite_neg (by simp [h4]) (Evt.ite (fun c => Evt.of_eq (if_pos (e.1 c)).symm) (fun c => Evt.of_eq (if_neg (fun z => c (e.2 z))).symm))
        · refine Evt.cast ?_ (if_neg (fun z => h4 z.2)).symm
          exact Evt.ite_pos (by simp; exact fun z => h4 z.symm) (Evt.pure _)
      · refine Evt.cast ?_ (if_neg (fun z => h3 z.1)).symm
        refine Evt.ite_neg h3 (Evt.succ ?_)
        simp only [gridhallref3_CommitError.j0]
        first
         |exact Evt.ite_pos (by simp) (Evt.pure _)
         |exact Evt.pure _
    · rw [if_neg h2]
      exact Evt.ite_neg h2 (Evt.pure _)
  · rw [if_neg h]
    exact Evt.ite_neg h (Evt.pure _)
def sameC (l : List Cm) (s : ByteArray) : Nat → Nat → Bool
 |0, _ => false
 |d + 1, m => decide ((ga l m).f0.f0.toList = s.toList) || sameC l s d (m + 1)
def cstep (D : Int) (l : List Cm) : Nat → Nat → Int
 |0, _ => if 0 ≤ D ∧ D ≤ 1000000 then 0 else 4
 |d + 1, n => if comErr (ga l n) = 0 then (if sameC l (ga l n).f0.f0 n 0 = true then 7 else cstep D l d (n + 1)) else comErr (ga l n)
def comsErr (l : List Cm) (D : Int) : Int := if l.length > 3 then 2 else cstep D l l.length 0
theorem ga_take (l : List Cm) {n m : Nat} (h : m < n) : ga (l.take n) m = ga l m := by
  unfold ga
  rw [List.getD_eq_getElem?_getD, List.getD_eq_getElem?_getD, List.getElem?_take_of_lt h]
theorem dual_CheckAll_l1 (D : Int) (l : List Cm) (hl : l.length ≤ 3) (n : Nat) (hn : n < l.length) (r : Int) (hr : Evt (fun k => dual_CheckAll.l0 k l [D] l (l.length : Int) ((n + 1 : Nat) : Int)) r) (x : Cm) :
    ∀ m, m ≤ n → Evt (fun k => dual_CheckAll.l1 k l [D] l (l.length : Int) (n : Int) (l.take n) (n : Int) (m : Int) x.f0.f0 x.f0.f1 x.f0.f2 x.f0.f3 x.f0.f4 x.f0.f5 x.f0.f6 x.f0.f7 x.f1.f0 x.f1.f1 x.f2.f0 x.f2.f1 x.f2.f2) (if sameC l x.f0.f0 (n - m) m = true then 7 else r):=by
  have hlen : (l.take n).length = n:=by rw [List.length_take]; omega
  refine down ?_ ?_
  · refine Evt.succ ?_
    simp only [dual_CheckAll.l1, Nat.sub_self, sameC]
    rw [wrap64_nat (by omega)]
    exact Evt.ite_neg (by omega) hr
  · intro m hm ih
    obtain ⟨d, hd⟩ : ∃ d, n - m = d + 1:=⟨n - m - 1, by omega⟩
    rw [show n - (m + 1) = d by omega] at ih
    rw [hd]
    refine Evt.succ ?_
    simp only [dual_CheckAll.l1, hlen, rdC]
    rw [wrap64_nat (by omega), ga_take l hm]
    refine Evt.ite_pos (by omega) (Evt.ite_pos (by omega) (Evt.ite_pos (by omega) ?_))
    by_cases h : (ga l m).f0.f0.toList = x.f0.f0.toList
    · refine Evt.ite_pos (by first|exact h|exact h.symm) ?_
      rw [if_pos (show sameC l x.f0.f0 (d + 1) m = true by simp [sameC, h])]
      exact Evt.pure _
    · refine Evt.ite_neg (by first|exact h|exact fun z => h z.symm) ?_
      have e : sameC l x.f0.f0 (d + 1) m = sameC l x.f0.f0 d (m + 1):=by simp [sameC, h]
      rw [e]
      exact ih
theorem dual_CheckAll_l2 (D : Int) : Evt (fun k => dual_CheckAll.l2 k [D] (([D] : List Int).length : Int) 0) (if 0 ≤ D ∧ D ≤ 1000000 then 0 else 4) := by
  have e : rd [D] 0 = D:=rfl
  have e1 : wrap64 (0 + 1) = 1:=by unfold wrap64; omega
  have fin : Evt (fun k => dual_CheckAll.l2 k [D] (([D] : List Int).length : Int) 1) 0:=by
    refine Evt.succ ?_
    simp only [dual_CheckAll.l2]
    first
     |exact Evt.ite_neg (by simp) (Evt.pure _)
     |exact Evt.pure _
  refine Evt.succ ?_
  simp only [dual_CheckAll.l2, rdC]
  rw [e, e1]
  refine Evt.ite_pos (by simp) (Evt.ite_pos (by omega) (Evt.ite_pos (by simp) ?_))
  by_cases c : 0 ≤ D ∧ D ≤ 1000000
  · rw [if_pos c]
    first
     |exact Evt.ite_neg (by omega) (Evt.ite_neg (by omega) fin)
     |exact Evt.ite_pos (decide_eq_true c) fin
  · rw [if_neg c]
    first
     |exact Evt.ite (fun _ => Evt.pure _) (fun c1 => Evt.ite (fun _ => Evt.pure _) (fun c2 => absurd ⟨by omega, by omega⟩ c))
     |exact Evt.ite_neg (by simpa using c) (Evt.pure _)
theorem dual_CheckAll_l0 (D : Int) (l : List Cm) (hl : l.length ≤ 3) : ∀ n, n ≤ l.length → Evt (fun k => dual_CheckAll.l0 k l [D] l (l.length : Int) (n : Int)) (cstep D l (l.length - n) n) := by
  refine down ?_ ?_
  · refine Evt.succ ?_
    simp only [dual_CheckAll.l0, Nat.sub_self, cstep]
    exact Evt.ite_neg (by omega) (dual_CheckAll_l2 D)
  · intro n hn ih
    obtain ⟨d, hd⟩ : ∃ d, l.length - n = d + 1:=⟨l.length - n - 1, by omega⟩
    rw [show l.length - (n + 1) = d by omega] at ih
    rw [hd]
    refine Evt.succ ?_
    simp only [dual_CheckAll.l0, cstep, rdC]
    refine Evt.ite_pos (by omega) (Evt.ite_pos (by omega) (Evt.ite_pos (by omega) (Evt.bind (dCheck_ev (ga l n)) ?_)))
    by_cases h : comErr (ga l n) = 0
    · rw [if_pos h]
      refine Evt.ite_pos h (Evt.ite_pos (by omega) (Evt.bindo rfl ?_))
      have e : ((n : Int)).toNat = n:=by omega
      have hlen : (l.take n).length = n:=by rw [List.length_take]; omega
      rw [e, hlen]
      exact dual_CheckAll_l1 D l hl n hn _ ih (ga l n) 0 (by omega)
    · rw [if_neg h]
      exact Evt.ite_neg h (Evt.pure _)
theorem dual_CheckAll_ev (D : Int) (l : List Cm) : Evt (fun k => dual_CheckAll.f k l [D]) (comsErr l D) := by
  simp only [dual_CheckAll.f]
  unfold comsErr
  by_cases h : l.length > 3
  · rw [if_pos h]
    refine Evt.ite_pos (by omega) (Evt.succ ?_)
    simp only [dual_CheckAll.j0]
    first
     |exact Evt.ite_pos (by simp) (Evt.pure _)
     |exact Evt.pure _
  · rw [if_neg h]
    refine Evt.ite_neg (by omega) (Evt.succ ?_)
    simp only [dual_CheckAll.j0]
    exact Evt.ite_neg (by simp) (dual_CheckAll_l0 D l (by omega) 0 (by omega))
theorem gridhallref3_CommitsError_l1 (D : Int) (l : List Cm) (hl : l.length ≤ 3) (n : Nat) (hn : n < l.length) (r : Int) (hr : Evt (fun k => gridhallref3_CommitsError.l0 k l [D] l (l.length : Int) ((n + 1 : Nat) : Int)) r) (x : Cm) :
    ∀ m, m ≤ n → Evt (fun k => gridhallref3_CommitsError.l1 k l [D] l (l.length : Int) (n : Int) (l.take n) (n : Int) (m : Int) x.f0.f0 x.f0.f1 x.f0.f2 x.f0.f3 x.f0.f4 x.f0.f5 x.f0.f6 x.f0.f7 x.f1.f0 x.f1.f1 x.f2.f0 x.f2.f1 x.f2.f2) (if sameC l x.f0.f0 (n - m) m = true then 7 else r):=by
  have hlen : (l.take n).length = n:=by rw [List.length_take]; omega
  refine down ?_ ?_
  · refine Evt.succ ?_
    simp only [gridhallref3_CommitsError.l1, Nat.sub_self, sameC]
    rw [wrap64_nat (by omega)]
    exact Evt.ite_neg (by omega) hr
  · intro m hm ih
    obtain ⟨d, hd⟩ : ∃ d, n - m = d + 1:=⟨n - m - 1, by omega⟩
    rw [show n - (m + 1) = d by omega] at ih
    rw [hd]
    refine Evt.succ ?_
    simp only [gridhallref3_CommitsError.l1, hlen, rdC]
    rw [wrap64_nat (by omega), ga_take l hm]
    refine Evt.ite_pos (by omega) (Evt.ite_pos (by omega) (Evt.ite_pos (by omega) ?_))
    by_cases h : (ga l m).f0.f0.toList = x.f0.f0.toList
    · refine Evt.ite_pos (by first|exact h|exact h.symm) ?_
      rw [if_pos (show sameC l x.f0.f0 (d + 1) m = true by simp [sameC, h])]
      exact Evt.pure _
    · refine Evt.ite_neg (by first|exact h|exact fun z => h z.symm) ?_
      have e : sameC l x.f0.f0 (d + 1) m = sameC l x.f0.f0 d (m + 1):=by simp [sameC, h]
      rw [e]
      exact ih
theorem gridhallref3_CommitsError_l2 (D : Int) : Evt (fun k => gridhallref3_CommitsError.l2 k [D] (([D] : List Int).length : Int) 0) (if 0 ≤ D ∧ D ≤ 1000000 then 0 else 4) := by
  have e : rd [D] 0 = D:=rfl
  have e1 : wrap64 (0 + 1) = 1:=by unfold wrap64; omega
  have fin : Evt (fun k => gridhallref3_CommitsError.l2 k [D] (([D] : List Int).length : Int) 1) 0:=by
    refine Evt.succ ?_
    simp only [gridhallref3_CommitsError.l2]
    first
     |exact Evt.ite_neg (by simp) (Evt.pure _)
     |exact Evt.pure _
  refine Evt.succ ?_
  simp only [gridhallref3_CommitsError.l2, in_eq]
  rw [e, e1]
  refine Evt.ite_pos (by simp) (Evt.ite_pos (by omega) (Evt.ite_pos (by simp) ?_))
  by_cases c : 0 ≤ D ∧ D ≤ 1000000
  · rw [if_pos c]
    first
     |exact Evt.ite_neg (by omega) (Evt.ite_neg (by omega) fin)
     |exact Evt.ite_pos (decide_eq_true c) fin
  · rw [if_neg c]
    first
     |exact Evt.ite (fun _ => Evt.pure _) (fun c1 => Evt.ite (fun _ => Evt.pure _) (fun c2 => absurd ⟨by omega, by omega⟩ c))
     |exact Evt.ite_neg (by simpa using c) (Evt.pure _)
theorem gridhallref3_CommitsError_l0 (D : Int) (l : List Cm) (hl : l.length ≤ 3) : ∀ n, n ≤ l.length → Evt (fun k => gridhallref3_CommitsError.l0 k l [D] l (l.length : Int) (n : Int)) (cstep D l (l.length - n) n) := by
  refine down ?_ ?_
  · refine Evt.succ ?_
    simp only [gridhallref3_CommitsError.l0, Nat.sub_self, cstep]
    exact Evt.ite_neg (by omega) (gridhallref3_CommitsError_l2 D)
  · intro n hn ih
    obtain ⟨d, hd⟩ : ∃ d, l.length - n = d + 1:=⟨l.length - n - 1, by omega⟩
    rw [show l.length - (n + 1) = d by omega] at ih
    rw [hd]
    refine Evt.succ ?_
    simp only [gridhallref3_CommitsError.l0, cstep, rdC]
    refine Evt.ite_pos (by omega) (Evt.ite_pos (by omega) (Evt.ite_pos (by omega) (Evt.bind (CommitError_ev (ga l n)) ?_)))
    by_cases h : comErr (ga l n) = 0
    · rw [if_pos h]
      refine Evt.ite_pos h (Evt.ite_pos (by omega) (Evt.bindo rfl ?_))
      have e : ((n : Int)).toNat = n:=by omega
      have hlen : (l.take n).length = n:=by rw [List.length_take]; omega
      rw [e, hlen]
      exact gridhallref3_CommitsError_l1 D l hl n hn _ ih (ga l n) 0 (by omega)
    · rw [if_neg h]
      exact Evt.ite_neg h (Evt.pure _)
theorem gridhallref3_CommitsError_ev (D : Int) (l : List Cm) : Evt (fun k => gridhallref3_CommitsError.f k l [D]) (comsErr l D) := by
  simp only [gridhallref3_CommitsError.f]
  unfold comsErr
  by_cases h : l.length > 3
  · rw [if_pos h]
    refine Evt.ite_pos (by omega) (Evt.succ ?_)
    simp only [gridhallref3_CommitsError.j0]
    first
     |exact Evt.ite_pos (by simp) (Evt.pure _)
     |exact Evt.pure _
  · rw [if_neg h]
    refine Evt.ite_neg (by omega) (Evt.succ ?_)
    simp only [gridhallref3_CommitsError.j0]
    exact Evt.ite_neg (by simp) (gridhallref3_CommitsError_l0 D l (by omega) 0 (by omega))
end Go.Proofs.Ytefkdkppipdceaa.CCommitServes
namespace Go.Proofs.Ytefkdkppipdceaa.DCommitServes
open Go.RowKit Go.Proofs.YtefkdkppipdceaaW.PrintWords Go.Proofs.YtefkdkppipdceaaW.PrintMore Go.Proofs.Ytefkdkppipdceaa.Evs Go.Proofs.Ytefkdkppipdceaa.PCommitServes Go.Proofs.Ytefkdkppipdceaa.BCommitServes Go.Proofs.Ytefkdkppipdceaa.CCommitServes
set_option linter.unusedVariables false
set_option linter.unusedSectionVars false
set_option linter.unusedSimpArgs false
def supL (l : List St) (p : Int) : Nat → Int
 |0 => 0
 |n + 1 => if pr l n < p then supL l p n + pw l n else supL l p n
def supM (l : List St) (p : Int) : Nat → Int
 |0 => 0
 |n + 1 => if pr l n ≤ p then supM l p n + pw l n else supM l p n
theorem sup_bd {l : List St} (h : Val l) (p : Int) : ∀ n, n ≤ l.length → 0 ≤ supL l p n ∧ supL l p n ≤ tot l n ∧ 0 ≤ supM l p n ∧ supM l p n ≤ tot l n := by
  intro n
  induction n with
 |zero => intro _; simp [supL, supM, tot]
 |succ n ih =>
    intro hn
    have h0:=ih (by omega)
    have hr:=h.rng n (by omega)
    simp only [supL, supM, tot]
    split <;> split <;> omega
theorem tot_le {l : List St} (h : Val l) {a b : Nat} (hab : a ≤ b) (hb : b ≤ l.length) : tot l a ≤ tot l b :=
  (tot_mono (n:=b) (fun m hm => (h.rng m (by omega)).1) a hab).2
theorem srt_le {l : List St} (h : Val l) {a b : Nat} (hab : a ≤ b) (hb : b < l.length) : pr l a ≤ pr l b := by
  induction b with
 |zero =>
    have : a = 0:=by omega
    rw [this]
    exact Int.le_refl _
 |succ b ih =>
    by_cases e : a = b + 1
    · rw [e]
      exact Int.le_refl _
    · have h1:=ih (by omega) (by omega)
      have h2:=h.srt (b + 1) (by omega) hb
      simp only [Nat.add_sub_cancel] at h2
      omega
def sm (f : Nat → Int) : Nat → Int
 |0 => 0
 |n + 1 => sm f n + f n
theorem sm_le {f g : Nat → Int} : ∀ n, (∀ i, i < n → f i ≤ g i) → sm f n ≤ sm g n := by
  intro n
  induction n with
 |zero => intro _; exact Int.le_refl _
 |succ n ih =>
    intro h
    have h1:=ih (fun i hi => h i (by omega))
    have h2:=h n (by omega)
    simp only [sm]
    omega
theorem sm_congr {f g : Nat → Int} : ∀ n, (∀ i, i < n → f i = g i) → sm f n = sm g n := by
  intro n
  induction n with
 |zero => intro _; rfl
 |succ n ih =>
    intro h
    simp only [sm]
    rw [ih (fun i hi => h i (by omega)), h n (by omega)]
theorem sm_eq_of {f g : Nat → Int} : ∀ n, (∀ i, i < n → f i ≤ g i) → sm f n = sm g n → ∀ i, i < n → f i = g i := by
  intro n
  induction n with
 |zero => intro _ _ i hi; omega
 |succ n ih =>
    intro h e i hi
    have h1:=sm_le n (fun i hi => h i (by omega))
    have h2:=h n (by omega)
    simp only [sm] at e
    by_cases c : i = n
    · subst c
      omega
    · exact ih (fun i hi => h i (by omega)) (by omega) i (by omega)
theorem sm_lt {f g : Nat → Int} (n : Nat) (h : sm f n < sm g n) : ∃ i, i < n ∧ f i < g i := by
  apply Classical.byContradiction
  intro hc
  have : sm g n ≤ sm f n:=sm_le n (fun i hi => by
    apply Decidable.byContradiction
    intro h2
    exact hc ⟨i, hi, by omega⟩)
  omega
theorem sm_upd {f : Nat → Int} (b : Nat) (v : Int) : ∀ n, sm (fun j => if j = b then v else f j) n = sm f n + (if b < n then v - f b else 0) := by
  intro n
  induction n with
 |zero => simp [sm]
 |succ n ih =>
    simp only [sm]
    rw [ih]
    by_cases c : n = b
    · subst c
      rw [if_pos rfl, if_neg (by omega), if_pos (by omega)]
      omega
    · rw [if_neg c]
      by_cases c2 : b < n
      · rw [if_pos c2, if_pos (by omega)]
        omega
      · rw [if_neg c2, if_neg (by omega)]
        omega
theorem sm_nonneg {f : Nat → Int} : ∀ n, (∀ i, i < n → 0 ≤ f i) → 0 ≤ sm f n := by
  intro n
  induction n with
 |zero => intro _; exact Int.le_refl _
 |succ n ih =>
    intro h
    have h1:=ih (fun i hi => h i (by omega))
    have h2:=h n (by omega)
    simp only [sm]
    omega
theorem sm_mono {f : Nat → Int} {N : Nat} (h : ∀ i, i < N → 0 ≤ f i) {a b : Nat} (hab : a ≤ b) (hb : b ≤ N) : sm f a ≤ sm f b := by
  induction b with
 |zero =>
    have : a = 0:=by omega
    rw [this]
    exact Int.le_refl _
 |succ b ih =>
    by_cases c : a = b + 1
    · rw [c]
      exact Int.le_refl _
    · have h1:=ih (by omega) (by omega)
      have h2:=h b (by omega)
      simp only [sm]
      omega
theorem sm_step {f : Nat → Int} (r : Int) (h0 : 0 ≤ r) : ∀ n, r < sm f n → ∃ s, s < n ∧ sm f s ≤ r ∧ r < sm f (s + 1) := by
  intro n
  induction n with
 |zero => intro h; simp only [sm] at h; omega
 |succ n ih =>
    intro h
    by_cases c : r < sm f n
    · obtain ⟨s, h1, h2, h3⟩:=ih c
      exact ⟨s, by omega, h2, h3⟩
    · exact ⟨n, by omega, by omega, h⟩
def tab (f : Nat → Int) (n : Nat) : List Int := (List.range n).map f
theorem tab_len (f : Nat → Int) (n : Nat) : (tab f n).length = n := by simp [tab]
theorem tab_get (f : Nat → Int) {n i : Nat} (h : i < n) : rd (tab f n) (i : Int) = f i := by
  unfold rd tab
  rw [List.getD_eq_getElem?_getD]
  simp [h]
theorem tab_set (f : Nat → Int) {n i : Nat} (v : Int) : (tab f n).set ((i : Int)).toNat v = tab (fun j => if j = i then v else f j) n := by
  rw [show ((i : Int)).toNat = i by omega]
  apply List.ext_getElem
  · simp [tab]
  · intro j h1 h2
    simp only [tab, List.getElem_set, List.getElem_map, List.getElem_range]
    by_cases c : i = j
    · rw [if_pos c, if_pos c.symm]
    · rw [if_neg c, if_neg (fun e => c e.symm)]
theorem tab_congr {f g : Nat → Int} {n : Nat} (h : ∀ i, i < n → f i = g i) : tab f n = tab g n := by
  apply List.ext_getElem
  · simp [tab]
  · intro j h1 h2
    simp only [tab, List.getElem_map, List.getElem_range]
    exact h j (by simpa [tab] using h1)
theorem tab_zero (n : Nat) : List.replicate n (0 : Int) = tab (fun _ => 0) n := by
  apply List.ext_getElem
  · simp [tab]
  · intro j h1 h2
    simp [tab]
theorem all_lt (l : List St) (p : Int) : ∀ n, (∀ m, m < n → pr l m < p) → supL l p n = tot l n := by
  intro n
  induction n with
 |zero => intro _; rfl
 |succ n ih =>
    intro h
    simp only [supL, tot]
    rw [if_pos (h n (by omega)), ih (fun m hm => h m (by omega))]
theorem all_le (l : List St) (p : Int) : ∀ n, (∀ m, m < n → pr l m ≤ p) → supM l p n = tot l n ∧ True := by
  intro n
  induction n with
 |zero => intro _; exact ⟨rfl, trivial⟩
 |succ n ih =>
    intro h
    simp only [supM, tot]
    rw [if_pos (h n (by omega)),(ih (fun m hm => h m (by omega))).1]
    exact ⟨rfl, trivial⟩
theorem supL_at {l : List St} (h : Val l) (p : Int) : ∀ n, n ≤ l.length → ∃ A, A ≤ n ∧ (∀ j, j < A → pr l j < p) ∧ (∀ j, A ≤ j → j < n → ¬ pr l j < p) ∧ supL l p n = tot l A := by
  intro n
  induction n with
 |zero => intro _; exact ⟨0, by omega, fun j hj => by omega, fun j h1 h2 => by omega, rfl⟩
 |succ n ih =>
    intro hn
    by_cases c : pr l n < p
    · have ha : ∀ m, m < n + 1 → pr l m < p:=fun m hm => by
        have:=srt_le h (a:=m) (b:=n) (by omega) (by omega)
        omega
      exact ⟨n + 1, by omega, ha, fun j h1 h2 => by omega, all_lt l p (n + 1) ha⟩
    · obtain ⟨A, h1, h2, h3, h4⟩:=ih (by omega)
      refine ⟨A, by omega, h2, fun j a b => ?_, ?_⟩
      · by_cases e : j = n
        · rw [e]
          exact c
        · exact h3 j a (by omega)
      · simp only [supL]
        rw [if_neg c]
        exact h4
theorem supM_at {l : List St} (h : Val l) (p : Int) : ∀ n, n ≤ l.length → ∃ A, A ≤ n ∧ (∀ j, j < A → pr l j ≤ p) ∧ (∀ j, A ≤ j → j < n → ¬ pr l j ≤ p) ∧ supM l p n = tot l A := by
  intro n
  induction n with
 |zero => intro _; exact ⟨0, by omega, fun j hj => by omega, fun j h1 h2 => by omega, rfl⟩
 |succ n ih =>
    intro hn
    by_cases c : pr l n ≤ p
    · have ha : ∀ m, m < n + 1 → pr l m ≤ p:=fun m hm => by
        have:=srt_le h (a:=m) (b:=n) (by omega) (by omega)
        omega
      exact ⟨n + 1, by omega, ha, fun j h1 h2 => by omega, (all_le l p (n + 1) ha).1⟩
    · obtain ⟨A, h1, h2, h3, h4⟩:=ih (by omega)
      refine ⟨A, by omega, h2, fun j a b => ?_, ?_⟩
      · by_cases e : j = n
        · rw [e]
          exact c
        · exact h3 j a (by omega)
      · simp only [supM]
        rw [if_neg c]
        exact h4
theorem untF_split {l : List St} (h : Val l) (k : Int) (P : Int → Prop) (A : Nat) (hA : A ≤ l.length) (h1 : ∀ j, j < A → P (pr l j)) (h2 : ∀ j, A ≤ j → j < l.length → ¬ P (pr l j)) (h3 : ¬ P 2000000) :
    ∀ d n, n + d = l.length → tot l n ≤ k → (P (untF l k d n) ↔ k < tot l A):=by
  intro d
  induction d with
 |zero =>
    intro n hn hk
    have:=tot_le h (a:=A) (b:=n) (by omega) (by omega)
    simp only [untF]
    exact ⟨fun hp => absurd hp h3, fun hk2 => by omega⟩
 |succ d ih =>
    intro n hn hk
    simp only [untF]
    by_cases c : k < tot l (n + 1)
    · rw [if_pos c]
      by_cases cA : n < A
      · have:=tot_le h (a:=n + 1) (b:=A) (by omega) hA
        exact ⟨fun _ => by omega, fun _ => h1 n cA⟩
      · have:=tot_le h (a:=A) (b:=n) (by omega) (by omega)
        exact ⟨fun hp => absurd hp (h2 n (by omega) (by omega)), fun hk2 => by omega⟩
    · rw [if_neg c]
      exact ih (n + 1) (by omega) (by omega)
theorem unit_lt {l : List St} (h : Val l) (k p : Int) (hk : 0 ≤ k) (hp : p ≤ 2000000) : untF l k l.length 0 < p ↔ k < supL l p l.length := by
  obtain ⟨A, hA, h1, h2, h3⟩:=supL_at h p l.length (Nat.le_refl _)
  rw [h3]
  exact untF_split h k (fun x => x < p) A hA h1 h2 (by omega) l.length 0 (by omega) (by simp only [tot]; exact hk)
theorem unit_le {l : List St} (h : Val l) (k p : Int) (hk : 0 ≤ k) (hp : p < 2000000) : untF l k l.length 0 ≤ p ↔ k < supM l p l.length := by
  obtain ⟨A, hA, h1, h2, h3⟩:=supM_at h p l.length (Nat.le_refl _)
  rw [h3]
  exact untF_split h k (fun x => x ≤ p) A hA h1 h2 (by omega) l.length 0 (by omega) (by simp only [tot]; exact hk)
theorem part_sum {l : List St} (h : Val l) {p : Int} (hp : 0 ≤ p) : ∀ n, n < l.length → BCommitServes.part l p n = mn p (tot l (n + 1)) - mn p (tot l n) := by
  intro n hn
  have h0:=(h.bd n (by omega)).1
  have hr:=(h.rng n hn).1
  have e : tot l (n + 1) = tot l n + pw l n:=rfl
  unfold BCommitServes.part
  rw [e]
  unfold mn mx
  repeat' split
  all_goals omega
theorem mul_sgn {a b : Int} (h : (0 ≤ a ∧ 0 ≤ b) ∨ (a ≤ 0 ∧ b ≤ 0)) : 0 ≤ a * b := by
  rcases h with ⟨h1, h2⟩|⟨h1, h2⟩
  · exact Int.mul_nonneg h1 h2
  · have:=Int.mul_nonneg (a:=-a) (b:=-b) (by omega) (by omega)
    rw [Int.neg_mul_neg] at this
    exact this
theorem sub_grad {l : List St} (h : Val l) {m f x lo : Int} (h0 : 0 ≤ lo) (hf : lo ≤ f) (hx : lo ≤ x) (hx2 : x ≤ tot l l.length) (hf2 : f ≤ tot l l.length) (hL : supL l m l.length ≤ f) (hM : f ≤ mx lo (supM l m l.length)) :
    m * (x - f) ≤ cst l x l.length - cst l f l.length:=by
  obtain ⟨A, hA, a1, a2, a3⟩:=supL_at h m l.length (Nat.le_refl _)
  obtain ⟨B, hB, b1, b2, b3⟩:=supM_at h m l.length (Nat.le_refl _)
  rw [a3] at hL
  rw [b3] at hM
  have all : ∀ n, n ≤ l.length → m * (mn x (tot l n) - mn f (tot l n)) ≤ cst l x n - cst l f n:=by
    intro n
    induction n with
   |zero =>
      intro _
      have e1 : mn x 0 = 0:=mn_ge (by omega)
      have e2 : mn f 0 = 0:=mn_ge (by omega)
      simp [cst, tot, e1, e2]
   |succ n ih =>
      intro hn
      have ih:=ih (by omega)
      simp only [cst]
      have px:=part_sum h (p:=x) (by omega) n (by omega)
      have pf:=part_sum h (p:=f) (by omega) n (by omega)
      have t1:=tot_le h (a:=n) (b:=n + 1) (by omega) hn
      have key : 0 ≤ (pr l n - m) * (BCommitServes.part l x n - BCommitServes.part l f n):=by
        refine mul_sgn ?_
        by_cases c1 : n < A
        · right
          have:=a1 n c1
          have t2:=tot_le h (a:=n + 1) (b:=A) (by omega) hA
          refine ⟨by omega, ?_⟩
          rw [px, pf]
          unfold mn
          repeat' split
          all_goals omega
        · have q1:=a2 n (by omega) (by omega)
          by_cases c2 : n < B
          · have q2:=b1 n c2
            have e : pr l n - m = 0:=by omega
            rw [e]
            by_cases c3 : 0 ≤ BCommitServes.part l x n - BCommitServes.part l f n
            · exact Or.inl ⟨by omega, c3⟩
            · exact Or.inr ⟨by omega, by omega⟩
          · have q2:=b2 n (by omega) (by omega)
            have t2:=tot_le h (a:=B) (b:=n) (by omega) (by omega)
            left
            refine ⟨by omega, ?_⟩
            rw [px, pf]
            revert hM
            unfold mx mn
            repeat' split
            all_goals omega
      rw [Int.sub_mul, Int.mul_sub, Int.mul_sub] at key
      rw [px, pf] at key ⊢
      rw [Int.mul_sub] at ih ⊢
      rw [Int.mul_sub, Int.mul_sub, Int.mul_sub, Int.mul_sub] at key
      rw [Int.mul_sub, Int.mul_sub]
      omega
  have:=all l.length (Nat.le_refl _)
  rw [mn_le hx2, mn_le hf2] at this
  exact this
end Go.Proofs.Ytefkdkppipdceaa.DCommitServes
namespace Go.Proofs.Ytefkdkppipdceaa.GCommitServes
open Go.RowKit Go.Proofs.YtefkdkppipdceaaW.PrintWords Go.Proofs.YtefkdkppipdceaaW.PrintMore Go.Proofs.Ytefkdkppipdceaa.Evs Go.Proofs.Ytefkdkppipdceaa.PCommitServes Go.Proofs.Ytefkdkppipdceaa.BCommitServes Go.Proofs.Ytefkdkppipdceaa.CCommitServes Go.Proofs.Ytefkdkppipdceaa.DCommitServes
set_option linter.unusedVariables false
set_option linter.unusedSectionVars false
set_option linter.unusedSimpArgs false
def stC (l : List Cm) (n : Nat) : List St := (ga l n).f1.f1
def leC (l : List Cm) (n : Nat) : Int := (ga l n).f0.f1
def moC (l : List Cm) (n : Nat) : Int := (ga l n).f0.f2
structure Coms (l : List Cm) : Prop where
  len : l.length ≤ 3
  one : ∀ n, n < l.length → Val (stC l n) ∧ 0 ≤ leC l n ∧ leC l n ≤ moC l n ∧ tot (stC l n) (stC l n).length = moC l n ∧ moC l n ≤ 100000
  ok : ∀ n, n < l.length → offErr (ga l n).f1.f0 (stC l n) = 0
theorem comErr_off {x : Cm} (h : comErr x = 0) : offErr x.f1.f0 x.f1.f1 = 0 := by
  unfold comErr at h
  by_cases h1 : stX x = 0
  · rw [if_pos h1] at h
    by_cases h2 : offErr x.f1.f0 x.f1.f1 = 0
    · exact h2
    · rw [if_neg h2] at h
      exact absurd h h2
  · rw [if_neg h1] at h
    exact absurd h h1
theorem comErr_ok {x : Cm} (h : comErr x = 0) : Val x.f1.f1 ∧ 0 ≤ x.f0.f1 ∧ x.f0.f1 ≤ x.f0.f2 ∧ tot x.f1.f1 x.f1.f1.length = x.f0.f2 ∧ x.f0.f2 ≤ 100000 := by
  unfold comErr at h
  by_cases h1 : stX x = 0
  · rw [if_pos h1] at h
    by_cases h2 : offErr x.f1.f0 x.f1.f1 = 0
    · rw [if_pos h2] at h
      obtain ⟨_, hv⟩:=offErr_val h2
      by_cases h3 : tot x.f1.f1 x.f1.f1.length = x.f0.f2 ∧ x.f1.f0.toList = x.f0.f0.toList
      · obtain ⟨_, ho, _⟩:=stErr_ok _ _ _ _ _ _ _ _ _ _ _ h1
        obtain ⟨⟨o1, o2⟩, o3, _⟩:=ho
        exact ⟨hv, o1, o2, h3.1, o3⟩
      · rw [if_neg h3] at h
        omega
    · rw [if_neg h2] at h
      exact absurd h h2
  · rw [if_neg h1] at h
    exact absurd h h1
theorem cstep_ok (D : Int) (l : List Cm) : ∀ d n, n + d = l.length → cstep D l d n = 0 → (0 ≤ D ∧ D ≤ 1000000) ∧ ∀ i, n ≤ i → i < l.length → comErr (ga l i) = 0 := by
  intro d
  induction d with
 |zero =>
    intro n hn h
    simp only [cstep] at h
    by_cases c : 0 ≤ D ∧ D ≤ 1000000
    · exact ⟨c, fun i h1 h2 => by omega⟩
    · rw [if_neg c] at h
      omega
 |succ d ih =>
    intro n hn h
    simp only [cstep] at h
    by_cases c : comErr (ga l n) = 0
    · rw [if_pos c] at h
      by_cases c2 : sameC l (ga l n).f0.f0 n 0 = true
      · rw [if_pos c2] at h
        omega
      · rw [if_neg c2] at h
        obtain ⟨g1, g2⟩:=ih (n + 1) (by omega) h
        refine ⟨g1, fun i h1 h2 => ?_⟩
        by_cases e : i = n
        · subst e
          exact c
        · exact g2 i (by omega) h2
    · rw [if_neg c] at h
      exact absurd h c
theorem comsErr_ok {l : List Cm} {D : Int} (h : comsErr l D = 0) : Coms l ∧ 0 ≤ D ∧ D ≤ 1000000 := by
  unfold comsErr at h
  by_cases c : l.length > 3
  · rw [if_pos c] at h
    omega
  · rw [if_neg c] at h
    obtain ⟨g1, g2⟩:=cstep_ok D l l.length 0 (by omega) h
    exact ⟨⟨by omega, fun n hn => comErr_ok (g2 n (by omega) hn), fun n hn => comErr_off (g2 n (by omega) hn)⟩, g1⟩
def supLC (l : List Cm) (m : Int) (i : Nat) : Int := supL (stC l i) m (stC l i).length
def supMC (l : List Cm) (m : Int) (i : Nat) : Int := supM (stC l i) m (stC l i).length
structure Rng (l : List Cm) (on : Nat → Bool) (f : Nat → Int) : Prop where
  off : ∀ i, i < l.length → on i = false → f i = 0
  rng : ∀ i, i < l.length → on i = true → leC l i ≤ f i ∧ f i ≤ moC l i
structure Thr (l : List Cm) (on : Nat → Bool) (m : Int) (f : Nat → Int) : Prop extends Rng l on f where
  lo : ∀ i, i < l.length → on i = true → supLC l m i ≤ f i
  hi : ∀ i, i < l.length → on i = true → f i ≤ mx (leC l i) (supMC l m i)
def cC (l : List Cm) (f : Nat → Int) (i : Nat) : Int := cst (stC l i) (f i) (stC l i).length
theorem cost_le {l : List Cm} (h : Coms l) {on : Nat → Bool} {m : Int} {f g : Nat → Int} (hf : Thr l on m f) (hg : Rng l on g) : ∀ n, n ≤ l.length → m * (sm g n - sm f n) ≤ sm (cC l g) n - sm (cC l f) n := by
  intro n
  induction n with
 |zero => intro _; simp [sm]
 |succ n ih =>
    intro hn
    have ih:=ih (by omega)
    obtain ⟨hv, h1, h2, h3, h4⟩:=h.one n (by omega)
    have step : m * (g n - f n) ≤ cC l g n - cC l f n:=by
      cases c : on n with
     |false =>
        have e1:=hf.off n (by omega) c
        have e2:=hg.off n (by omega) c
        unfold cC
        rw [e1, e2]
        simp
     |true =>
        obtain ⟨f1, f2⟩:=hf.rng n (by omega) c
        obtain ⟨g1, g2⟩:=hg.rng n (by omega) c
        exact sub_grad hv h1 f1 g1 (by omega) (by omega) (hf.lo n (by omega) c) (hf.hi n (by omega) c)
    simp only [sm]
    rw [Int.mul_sub] at ih step
    rw [Int.mul_sub, Int.mul_add, Int.mul_add]
    omega
theorem cost_eq {l : List Cm} (h : Coms l) {on : Nat → Bool} {m m' : Int} {f g : Nat → Int} (hf : Thr l on m f) (hg : Thr l on m' g) (hs : sm f l.length = sm g l.length) : sm (cC l f) l.length = sm (cC l g) l.length := by
  have a:=cost_le h hf hg.toRng l.length (Nat.le_refl _)
  have b:=cost_le h hg hf.toRng l.length (Nat.le_refl _)
  rw [hs, Int.sub_self, Int.mul_zero] at a
  rw [hs, Int.sub_self, Int.mul_zero] at b
  omega
theorem thr_step {l : List Cm} (h : Coms l) {on : Nat → Bool} {m : Int} {f : Nat → Int} (hf : Thr l on m f) (b : Nat) (hb : b < l.length) (ob : on b = true) (hfb : f b < moC l b)
    (best : ∀ i, i < l.length → on i = true → f i < moC l i → untF (stC l b) (f b) (stC l b).length 0 ≤ untF (stC l i) (f i) (stC l i).length 0) :
    Thr l on (untF (stC l b) (f b) (stC l b).length 0) (fun i => if i = b then f b + 1 else f i):=by
  obtain ⟨p, hp⟩ : ∃ p, p = untF (stC l b) (f b) (stC l b).length 0:=⟨_, rfl⟩
  rw [← hp] at best ⊢
  obtain ⟨bv, b1, b2, b3, b4⟩:=h.one b hb
  obtain ⟨bf1, bf2⟩:=hf.rng b hb ob
  have pm : p ≤ 1000000:=by
    have : untF (stC l b) (f b) (stC l b).length 0 ≤ 1000000:=by
      refine (unit_le bv (f b) 1000000 (by omega) (by omega)).2 ?_
      have e:=(all_le (stC l b) 1000000 (stC l b).length (fun j hj => (bv.rng j hj).2.2.2)).1
      rw [e, b3]
      exact hfb
    omega
  have lo : ∀ i, i < l.length → on i = true → supLC l p i ≤ f i:=by
    intro i hi oi
    obtain ⟨iv, i1, i2, i3, i4⟩:=h.one i hi
    obtain ⟨if1, if2⟩:=hf.rng i hi oi
    have ub:=(sup_bd iv p (stC l i).length (Nat.le_refl _)).2.1
    by_cases c : f i < moC l i
    · have:=best i hi oi c
      apply Decidable.byContradiction
      intro c2
      have:=(unit_lt iv (f i) p (by omega) (by omega)).2 (by unfold supLC at c2; omega)
      omega
    · unfold supLC
      omega
  have mp : m ≤ p:=by
    apply Decidable.byContradiction
    intro c
    have l1:=hf.lo b hb ob
    have : ¬ untF (stC l b) (f b) (stC l b).length 0 < m:=by
      intro c2
      by_cases cm : m ≤ 2000000
      · have:=(unit_lt bv (f b) m (by omega) cm).1 c2
        unfold supLC at l1
        omega
      · have e:=all_lt (stC l b) m (stC l b).length (fun j hj => by have:=(bv.rng j hj).2.2.2; omega)
        unfold supLC at l1
        rw [e, b3] at l1
        omega
    omega
  have mono : ∀ i, i < l.length → supMC l m i ≤ supMC l p i:=by
    intro i hi
    obtain ⟨iv, _⟩:=h.one i hi
    unfold supMC
    have : ∀ n, n ≤ (stC l i).length → supM (stC l i) m n ≤ supM (stC l i) p n:=by
      intro n
      induction n with
     |zero => intro _; exact Int.le_refl _
     |succ n ih =>
        intro hn
        have:=ih (by omega)
        have:=(iv.rng n (by omega)).1
        simp only [supM]
        split <;> split <;> omega
    exact this _ (Nat.le_refl _)
  have hi : ∀ i, i < l.length → on i = true → f i ≤ mx (leC l i) (supMC l p i):=by
    intro i hi oi
    have q1:=hf.hi i hi oi
    have q2:=mono i hi
    revert q1
    unfold mx
    repeat' split
    all_goals omega
  refine ⟨⟨fun i hi oi => ?_, fun i hi oi => ?_⟩, fun i hi oi => ?_, fun i hi2 oi => ?_⟩
  · show (if i = b then f b + 1 else f i) = 0
    rw [if_neg (fun e => by subst e; rw [ob] at oi; cases oi)]
    exact hf.off i hi oi
  · show leC l i ≤ (if i = b then f b + 1 else f i) ∧ (if i = b then f b + 1 else f i) ≤ moC l i
    by_cases e : i = b
    · subst e
      rw [if_pos rfl]
      omega
    · rw [if_neg e]
      exact hf.rng i hi oi
  · show supLC l p i ≤ (if i = b then f b + 1 else f i)
    have:=lo i hi oi
    by_cases e : i = b
    · subst e
      rw [if_pos rfl]
      omega
    · rw [if_neg e]
      exact this
  · show (if i = b then f b + 1 else f i) ≤ mx (leC l i) (supMC l p i)
    by_cases e : i = b
    · subst e
      rw [if_pos rfl]
      have:=(unit_le bv (f i) p (by omega) (by omega)).1 (by omega)
      unfold supMC
      unfold mx
      split <;> omega
    · rw [if_neg e]
      exact hi i hi2 oi
end Go.Proofs.Ytefkdkppipdceaa.GCommitServes
namespace Go.Proofs.Ytefkdkppipdceaa.KCommitServes
open Go.RowKit Go.Proofs.YtefkdkppipdceaaW.PrintWords Go.Proofs.YtefkdkppipdceaaW.PrintMore Go.Proofs.Ytefkdkppipdceaa.Evs Go.Proofs.Ytefkdkppipdceaa.PCommitServes Go.Proofs.Ytefkdkppipdceaa.BCommitServes Go.Proofs.Ytefkdkppipdceaa.CCommitServes Go.Proofs.Ytefkdkppipdceaa.DCommitServes Go.Proofs.Ytefkdkppipdceaa.GCommitServes
set_option linter.unusedVariables false
set_option linter.unusedSectionVars false
set_option linter.unusedSimpArgs false
def UC (l : List Cm) (f : Nat → Int) (i : Nat) : Int := untF (stC l i) (f i) (stC l i).length 0
def selL (l : List Cm) (on : Nat → Bool) : List Int := tab (fun i => if on i = true then 1 else 0) l.length
def pkC (l : List Cm) (on : Nat → Bool) (f : Nat → Int) : Nat → Nat → Int → Int
 |0, _, b => b
 |d + 1, n, b => if on n = true ∧ f n < moC l n then (if b < 0 then pkC l on f d (n + 1) (n : Int) else if UC l f n < UC l f b.toNat then pkC l on f d (n + 1) (n : Int) else pkC l on f d (n + 1) b) else pkC l on f d (n + 1) b
def PkI (l : List Cm) (on : Nat → Bool) (f : Nat → Int) (n : Nat) (b : Int) : Prop :=
  (b = -1 ∧ ∀ i, i < n → ¬ (on i = true ∧ f i < moC l i)) ∨ ∃ j : Nat, b = (j : Int) ∧ j < n ∧ on j = true ∧ f j < moC l j ∧ ∀ i, i < n → on i = true → f i < moC l i → UC l f j ≤ UC l f i
theorem pkC_spec (l : List Cm) (on : Nat → Bool) (f : Nat → Int) : ∀ d n b, PkI l on f n b → PkI l on f (n + d) (pkC l on f d n b) := by
  intro d
  induction d with
 |zero => intro n b h; exact h
 |succ d ih =>
    intro n b h
    simp only [pkC]
    rw [show n + (d + 1) = n + 1 + d by omega]
    by_cases c : on n = true ∧ f n < moC l n
    · rw [if_pos c]
      rcases h with ⟨rfl, h⟩|⟨j, rfl, h1, h2, h3, h4⟩
      · rw [if_pos (by omega)]
        refine ih (n + 1) _ (Or.inr ⟨n, rfl, by omega, c.1, c.2, fun i hi o1 o2 => ?_⟩)
        by_cases e : i = n
        · rw [e]
          exact Int.le_refl _
        · exact absurd ⟨o1, o2⟩ (h i (by omega))
      · rw [if_neg (by omega), Int.toNat_natCast]
        by_cases c2 : UC l f n < UC l f j
        · rw [if_pos c2]
          refine ih (n + 1) _ (Or.inr ⟨n, rfl, by omega, c.1, c.2, fun i hi o1 o2 => ?_⟩)
          by_cases e : i = n
          · rw [e]
            exact Int.le_refl _
          · have:=h4 i (by omega) o1 o2
            omega
        · rw [if_neg c2]
          refine ih (n + 1) _ (Or.inr ⟨j, rfl, by omega, h2, h3, fun i hi o1 o2 => ?_⟩)
          by_cases e : i = n
          · rw [e]
            omega
          · exact h4 i (by omega) o1 o2
    · rw [if_neg c]
      refine ih (n + 1) _ ?_
      rcases h with ⟨rfl, h⟩|⟨j, rfl, h1, h2, h3, h4⟩
      · refine Or.inl ⟨rfl, fun i hi => ?_⟩
        by_cases e : i = n
        · rw [e]
          exact c
        · exact h i (by omega)
      · refine Or.inr ⟨j, rfl, by omega, h2, h3, fun i hi o1 o2 => ?_⟩
        by_cases e : i = n
        · subst e
          exact absurd ⟨o1, o2⟩ c
        · exact h4 i (by omega) o1 o2
def ContC (l : List Cm) (on : Nat → Bool) (D : Int) (f : Nat → Int) (d : Int) (r : Int × Bool) (v : Int) : Prop :=
  Evt (fun k => if v < 0 then some (0, false) else (if 0 ≤ v then (if v < (l.length : Int) then (gridhallref3_Cheapest.l1 k l (selL l on) D ((tab f l.length).set v.toNat (wrap64 ((rd (tab f l.length) v) + 1))) (wrap64 (d + 1))) else none) else none)) r
section
variable {l : List Cm} (h : Coms l) {on : Nat → Bool} {D : Int}
include h
theorem cC_bd (f : Nat → Int) : ∀ n, n ≤ l.length → -1200000000000 * (n : Int) ≤ sm (cC l f) n ∧ sm (cC l f) n ≤ 1200000000000 * (n : Int) := by
  intro n
  induction n with
 |zero => intro _; simp [sm]
 |succ n ih =>
    intro hn
    have ih:=ih (by omega)
    obtain ⟨hv, _⟩:=h.one n (by omega)
    have:=cst_bd hv (f n) (stC l n).length (Nat.le_refl _)
    have:=hv.len
    simp only [sm, cC]
    omega
theorem Ch_l3 (f : Nat → Int) (d : Int) : ∀ n, n ≤ l.length → Evt (fun k => gridhallref3_Cheapest.l3 k D (tab f l.length) d (sm (cC l f) n) l (l.length : Int) (n : Int)) (sm (cC l f) l.length, d == D) := by
  have hl:=h.len
  refine down ?_ ?_
  · refine Evt.succ ?_
    simp only [gridhallref3_Cheapest.l3]
    exact Evt.ite_neg (by omega) (Evt.pure _)
  · intro n hn ih
    obtain ⟨hv, _⟩:=h.one n hn
    have b1:=cC_bd h f n (by omega)
    have b2:=cC_bd h f (n + 1) (by omega)
    refine Evt.succ ?_
    simp only [gridhallref3_Cheapest.l3, rdC, tab_len]
    rw [tab_get f hn, wrap64_nat (n:=n) (by omega)]
    refine Evt.ite_pos (by omega) (Evt.ite_pos (by omega) (Evt.ite_pos (by omega) (Evt.ite_pos (by omega) (Evt.bind (refCost_ev _ _ hv (f n)) ?_))))
    have e : sm (cC l f) n + cst (stC l n) (f n) (stC l n).length = sm (cC l f) (n + 1):=rfl
    show Evt (fun k => gridhallref3_Cheapest.l3 k D (tab f l.length) d (wrap64 (sm (cC l f) n + cst (stC l n) (f n) (stC l n).length)) l (l.length : Int) ((n + 1 : Nat) : Int)) _
    rw [e, wrap64_of (by omega) (by omega)]
    exact ih
theorem Ch_l2 (f : Nat → Int) (hf : ∀ i, i < l.length → 0 ≤ f i ∧ f i ≤ 100000) (d : Int) (r : Int × Bool) : ∀ n, n ≤ l.length → ∀ b, PkI l on f n b →
    ContC l on D f d r (pkC l on f (l.length - n) n b) →
    Evt (fun k => gridhallref3_Cheapest.l2 k l (selL l on) D (tab f l.length) d b l (l.length : Int) (n : Int)) r:=by
  have hl:=h.len
  have sl_ : (selL l on).length = l.length:=tab_len _ _
  refine down ?_ ?_
  · intro b hb H
    refine Evt.succ ?_
    simp only [gridhallref3_Cheapest.l2, tab_len]
    rw [Nat.sub_self] at H
    exact Evt.ite_neg (by omega) H
  · intro n hn ih b hb H
    obtain ⟨e, he⟩ : ∃ e, l.length - n = e + 1:=⟨l.length - n - 1, by omega⟩
    rw [he] at H
    rw [show l.length - (n + 1) = e by omega] at ih
    obtain ⟨hv, _⟩:=h.one n hn
    have hs : rd (selL l on) (n : Int) = if on n = true then 1 else 0:=tab_get _ hn
    have nxt:=pkC_spec l on f 1 n b hb
    simp only [pkC] at nxt
    refine Evt.succ ?_
    simp only [gridhallref3_Cheapest.l2, rdC, tab_len, sl_]
    rw [hs, tab_get f hn, wrap64_nat (n:=n) (by omega)]
    refine Evt.ite_pos (by omega) (Evt.ite_pos (by omega) (Evt.ite_pos (by omega) (Evt.ite_pos (by omega) ?_)))
    simp only [pkC] at H
    by_cases c : on n = true ∧ f n < moC l n
    · rw [if_pos c] at H nxt
      refine Evt.ite_pos (by rw [if_pos c.1]) (Evt.ite_pos (by omega) (Evt.ite_pos c.2 ?_))
      rcases hb with ⟨rfl, _⟩|⟨j, rfl, j1, _⟩
      · rw [if_pos (by omega)] at H nxt
        exact Evt.ite_pos (by omega) (ih _ nxt H)
      · rw [if_neg (by omega), Int.toNat_natCast] at H nxt
        obtain ⟨jv, _⟩:=h.one j (by omega)
        rw [tab_get f (show j < l.length by omega)]
        refine Evt.ite_neg (by omega) (Evt.bind (Unit_ev _ _ hv (f n)) (Evt.ite_pos (by omega) (Evt.ite_pos (by omega) (Evt.ite_pos (by omega) (Evt.bind (Unit_ev _ _ jv (f j)) ?_)))))
        by_cases c2 : UC l f n < UC l f j
        · rw [if_pos c2] at H nxt
          exact Evt.ite_pos c2 (ih _ nxt H)
        · rw [if_neg c2] at H nxt
          exact Evt.ite_neg c2 (ih _ nxt H)
    · rw [if_neg c] at H nxt
      by_cases c1 : on n = true
      · exact Evt.ite_pos (by rw [if_pos c1]) (Evt.ite_pos (by omega) (Evt.ite_neg (fun z => c ⟨c1, z⟩) (ih _ nxt H)))
      · exact Evt.ite_neg (by rw [if_neg c1]; omega) (ih _ nxt H)
end
end Go.Proofs.Ytefkdkppipdceaa.KCommitServes
namespace Go.Proofs.Ytefkdkppipdceaa.LCommitServes
open Go.RowKit Go.Proofs.YtefkdkppipdceaaW.PrintWords Go.Proofs.YtefkdkppipdceaaW.PrintMore Go.Proofs.Ytefkdkppipdceaa.Evs Go.Proofs.Ytefkdkppipdceaa.PCommitServes Go.Proofs.Ytefkdkppipdceaa.BCommitServes Go.Proofs.Ytefkdkppipdceaa.CCommitServes Go.Proofs.Ytefkdkppipdceaa.DCommitServes Go.Proofs.Ytefkdkppipdceaa.GCommitServes Go.Proofs.Ytefkdkppipdceaa.KCommitServes
set_option linter.unusedVariables false
set_option linter.unusedSectionVars false
set_option linter.unusedSimpArgs false
def moO (l : List Cm) (on : Nat → Bool) (i : Nat) : Int := if on i = true then moC l i else 0
def leO (l : List Cm) (on : Nat → Bool) (i : Nat) : Int := if on i = true then leC l i else 0
section
variable {l : List Cm} (h : Coms l) {on : Nat → Bool} {D : Int} (hD : 0 ≤ D ∧ D ≤ 1000000)
theorem low_le {f : Nat → Int} (hf : Rng l on f) : sm (leO l on) l.length ≤ sm f l.length := by
  refine sm_le _ (fun i hi => ?_)
  unfold leO
  cases c : on i with
 |false =>
    have:=hf.off i hi c
    simp [this]
 |true =>
    have:=(hf.rng i hi c).1
    simpa using this
theorem high_le {f : Nat → Int} (hf : Rng l on f) : sm f l.length ≤ sm (moO l on) l.length := by
  refine sm_le _ (fun i hi => ?_)
  unfold moO
  cases c : on i with
 |false =>
    have:=hf.off i hi c
    simp [this]
 |true =>
    have:=(hf.rng i hi c).2
    simpa using this
include h
theorem Rng.bd {f : Nat → Int} (hf : Rng l on f) : ∀ i, i < l.length → 0 ≤ f i ∧ f i ≤ 100000 := by
  intro i hi
  obtain ⟨_, h1, h2, h3, h4⟩:=h.one i hi
  cases c : on i with
 |false => have:=hf.off i hi c; omega
 |true => have:=hf.rng i hi c; omega
theorem Rng.smbd {f : Nat → Int} (hf : Rng l on f) : ∀ n, n ≤ l.length → 0 ≤ sm f n ∧ sm f n ≤ 100000 * (n : Int) := by
  intro n
  induction n with
 |zero => intro _; simp [sm]
 |succ n ih =>
    intro hn
    have:=ih (by omega)
    have:=Rng.bd h hf n (by omega)
    simp only [sm]
    omega
def Out (l : List Cm) (on : Nat → Bool) (D : Int) (out : Int × Bool) : Prop :=
  (out.2 = true ∧ ∃ m g, Thr l on m g ∧ sm g l.length = D ∧ out.1 = sm (cC l g) l.length) ∨ (out.2 = false ∧ (D < sm (leO l on) l.length ∨ sm (moO l on) l.length < D))
theorem leO_thr : Thr l on (-2000000) (leO l on) := by
  have zero : ∀ i, i < l.length → supLC l (-2000000) i = 0:=by
    intro i hi
    obtain ⟨hv, _⟩:=h.one i hi
    obtain ⟨A, hA, a1, a2, a3⟩:=supL_at hv (-2000000) (stC l i).length (Nat.le_refl _)
    unfold supLC
    rw [a3]
    by_cases c : A = 0
    · rw [c]
      rfl
    · have:=a1 0 (by omega)
      have:=(hv.rng 0 (by omega)).2.2
      omega
  refine ⟨⟨fun i hi oi => by unfold leO; rw [oi]; rfl, fun i hi oi => ?_⟩, fun i hi oi => ?_, fun i hi oi => ?_⟩
  · obtain ⟨_, h1, h2, _⟩:=h.one i hi
    unfold leO
    rw [oi]
    simp
    exact h2
  · obtain ⟨_, h1, h2, _⟩:=h.one i hi
    rw [zero i hi]
    unfold leO
    rw [oi]
    simpa using h1
  · unfold leO mx
    rw [oi]
    simp
    split <;> omega
include hD
theorem Ch_l1 : ∀ (e : Nat) (f : Nat → Int) (m d : Int), D - d ≤ e → Thr l on m f → sm f l.length = d → (D < d → d = sm (leO l on) l.length) →
    ∃ out, Evt (fun k => gridhallref3_Cheapest.l1 k l (selL l on) D (tab f l.length) d) out ∧ Out l on D out:=by
  have hl:=h.len
  intro e
  induction e with
 |zero =>
    intro f m d h1 hf hs h0
    refine ⟨(sm (cC l f) l.length, d == D), Evt.succ ?_, ?_⟩
    · simp only [gridhallref3_Cheapest.l1]
      exact Evt.ite_neg (by omega) (Ch_l3 h f d 0 (by omega))
    · by_cases c : d = D
      · exact Or.inl ⟨by simp [c], m, f, hf, by omega, rfl⟩
      · exact Or.inr ⟨by simp [c], Or.inl (by have:=h0 (by omega); omega)⟩
 |succ e ih =>
    intro f m d h1 hf hs h0
    by_cases c : d < D
    · have hb:=Rng.bd h hf.toRng
      have sp:=pkC_spec l on f l.length 0 (-1) (Or.inl ⟨rfl, fun i hi => by omega⟩)
      rw [Nat.zero_add] at sp
      have go : ∀ r, ContC l on D f d r (pkC l on f l.length 0 (-1)) → Evt (fun k => gridhallref3_Cheapest.l1 k l (selL l on) D (tab f l.length) d) r:=by
        intro r H
        refine Evt.succ ?_
        simp only [gridhallref3_Cheapest.l1]
        exact Evt.ite_pos c (Ch_l2 h f hb d r 0 (by omega) (-1) (Or.inl ⟨rfl, fun i hi => by omega⟩) H)
      rcases sp with ⟨e1, full⟩|⟨j, e1, j1, j2, j3, j4⟩
      · refine ⟨(0, false), go _ ?_, Or.inr ⟨rfl, Or.inr ?_⟩⟩
        · rw [e1]
          exact Evt.ite_pos (by omega) (Evt.pure _)
        · have : sm f l.length = sm (moO l on) l.length:=sm_congr _ (fun i hi => by
            unfold moO
            cases ci : on i with
           |false =>
              have:=hf.off i hi ci
              simp [this]
           |true =>
              have q:=full i hi
              have:=(hf.rng i hi ci).2
              have : ¬ f i < moC l i:=fun z => q ⟨ci, z⟩
              simp
              omega)
          omega
      · have st:=thr_step h hf j j1 j2 j3 j4
        have sum : sm (fun i => if i = j then f j + 1 else f i) l.length = d + 1:=by
          rw [sm_upd j (f j + 1) l.length, if_pos j1, hs]
          omega
        obtain ⟨out, o1, o2⟩:=ih _ _ (d + 1) (by omega) st sum (by omega)
        refine ⟨out, go _ ?_, o2⟩
        rw [e1]
        have sb:=Rng.smbd h hf.toRng l.length (Nat.le_refl _)
        have bj:=hb j j1
        refine Evt.ite_neg (by omega) (Evt.ite_pos (by omega) (Evt.ite_pos (by omega) ?_))
        rw [tab_get f j1, wrap64_of (x:=f j + 1) (by omega) (by omega), wrap64_of (x:=d + 1) (by omega) (by omega), tab_set]
        exact o1
    · refine ⟨(sm (cC l f) l.length, d == D), Evt.succ ?_, ?_⟩
      · simp only [gridhallref3_Cheapest.l1]
        exact Evt.ite_neg c (Ch_l3 h f d 0 (by omega))
      · by_cases c2 : d = D
        · exact Or.inl ⟨by simp [c2], m, f, hf, by omega, rfl⟩
        · exact Or.inr ⟨by simp [c2], Or.inl (by have:=h0 (by omega); omega)⟩
theorem Ch_l0 : ∃ out, Out l on D out ∧ ∀ n, n ≤ l.length → Evt (fun k => gridhallref3_Cheapest.l0 k l (selL l on) D (tab (fun i => if i < n then leO l on i else 0) l.length) (sm (leO l on) n) l (l.length : Int) (n : Int)) out := by
  have hl:=h.len
  have th:=leO_thr (on:=on) h
  have sl_ : (selL l on).length = l.length:=tab_len _ _
  obtain ⟨out, o1, o2⟩:=Ch_l1 h hD (on:=on) (D - sm (leO l on) l.length).toNat (leO l on) (-2000000) (sm (leO l on) l.length) (by omega) th rfl (fun _ => rfl)
  refine ⟨out, o2, down ?_ ?_⟩
  · refine Evt.succ ?_
    simp only [gridhallref3_Cheapest.l0]
    rw [tab_congr (g:=leO l on) (fun i hi => if_pos hi)]
    exact Evt.ite_neg (by omega) o1
  · intro n hn ih
    have hs : rd (selL l on) (n : Int) = if on n = true then 1 else 0:=tab_get _ hn
    have sb:=Rng.smbd h th.toRng n (by omega)
    have sb1:=Rng.smbd h th.toRng (n + 1) (by omega)
    refine Evt.succ ?_
    simp only [gridhallref3_Cheapest.l0, rdC, tab_len, sl_]
    rw [hs, wrap64_nat (n:=n) (by omega)]
    refine Evt.ite_pos (by omega) (Evt.ite_pos (by omega) (Evt.ite_pos (by omega) (Evt.ite_pos (by omega) ?_)))
    by_cases c : on n = true
    · refine Evt.ite_pos (by rw [if_pos c]) (Evt.ite_pos (by omega) ?_)
      have e1 : (ga l n).f0.f1 = leO l on n:=by unfold leO; rw [if_pos c]; rfl
      have e2 : sm (leO l on) n + leO l on n = sm (leO l on) (n + 1):=rfl
      rw [e1, e2, wrap64_of (by omega) (by omega), tab_set]
      have e3 : tab (fun j => if j = n then leO l on n else if j < n then leO l on j else 0) l.length = tab (fun i => if i < n + 1 then leO l on i else 0) l.length:=tab_congr (fun i hi => by
        by_cases e : i = n
        · subst e
          rw [if_pos rfl, if_pos (by omega)]
        · rw [if_neg e]
          by_cases e2 : i < n
          · rw [if_pos e2, if_pos (by omega)]
          · rw [if_neg e2, if_neg (by omega)])
      rw [e3]
      exact ih
    · refine Evt.ite_neg (by rw [if_neg c]; omega) ?_
      have z : leO l on n = 0:=by unfold leO; rw [if_neg c]
      have e2 : sm (leO l on) (n + 1) = sm (leO l on) n:=by simp only [sm]; omega
      have e3 : tab (fun i => if i < n + 1 then leO l on i else 0) l.length = tab (fun i => if i < n then leO l on i else 0) l.length:=tab_congr (fun i hi => by
        by_cases e : i = n
        · subst e
          rw [if_pos (by omega), if_neg (by omega), z]
        · by_cases e2 : i < n
          · rw [if_pos e2, if_pos (by omega)]
          · rw [if_neg e2, if_neg (by omega)])
      rw [e2, e3] at ih
      exact ih
theorem Cheapest_ev : ∃ out, Out l on D out ∧ Evt (fun k => gridhallref3_Cheapest.f k l (selL l on) D) out := by
  have hl:=h.len
  obtain ⟨out, o1, o2⟩:=Ch_l0 h hD (on:=on)
  refine ⟨out, o1, ?_⟩
  simp only [gridhallref3_Cheapest.f]
  have:=o2 0 (by omega)
  refine Evt.ite_pos (by omega) (Evt.ite_pos (by omega) ?_)
  rw [Int.toNat_natCast, tab_zero]
  have e : tab (fun i => if i < 0 then leO l on i else 0) l.length = tab (fun _ => 0) l.length:=tab_congr (fun i hi => if_neg (by omega))
  rw [e] at this
  exact this
end
end Go.Proofs.Ytefkdkppipdceaa.LCommitServes
